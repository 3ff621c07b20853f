/- A part of the proof of GcKnown; no conditions. -/
import Derived.Test.YtbnmpafbfoaggaaGreatDoorQ8
import Derived.KernelRfl
import Derived.Conc.Listed
import Derived.Conc.LoneCalls
import Derived.Conc.Beside
import Derived.Conc.MuSpec
import Derived.Conc.Own
set_option linter.unusedVariables false
set_option linter.unusedSimpArgs false
set_option maxRecDepth 100000
set_option maxHeartbeats 16000000
noncomputable section
open Go renaming Goroutine->Ω,Value->Ξ,Program->Θ,FuncId->Δ,World->Γ,Frame->ξ,TypeId->κ,Machine->Z1,doReturn->ZZ,Obj->ZW,tryRecover->ZT,invoke->ZS,callDeferred->ZR,tryRecoverLoop->ZQ,Deferred->ZO,resolve->ZN,Code->ZK,results->ZJ,Func->ZH,CallKind->ZG,Sem->ZD
open Bool renaming true->Ψ,false->χ
open Go.Frame renaming enter->ω,eval->ZY,round->ZF,oper?->ZE
open Option renaming none->ψ,some->φ,map_eq_some_iff->ι
open Go.GStep renaming after->υ
open Go.stepG renaming exec->ο,apply->ε
open Go.Conc renaming mem_ofEvents->μ,Deaf_other->ZP,mem_seen->ZC
open Go.MemAct renaming ofEvent->θ,touch?->ζ
open Go.Sem renaming run_bind->η,run->ZV,bind->ZL
open Go.Extern.ReflectliteValue renaming method->Z9,elem->Z7,set->Z0
open Option.some renaming injEq->Z8,inj->ZI
open Go.Instr renaming takeDeferred->Z4,getLoop->Z3,endLoop->Z2,enterLoop->ZX,endRound->ZM
open Go.Mark renaming extern->ZU
namespace Go.Proofs.YtbnmpafbfoaggaaGreatDoor
namespace gO
open Go
section
section
variable{c:Ctx}
open Go.Extern.Rtype
theorem iQ(h:Ξ):TT c (ofHandle h):=by unfold ofHandle;refine aM rfl ?_;split<;>first|exact ag _|exact ai _
theorem t9(t:κ):TT c (handle t):=aM rfl (ag _)
theorem lL(s:String)(t:κ):TT c (noPack s t):=by unfold noPack;exact aM (by rw[show c.Q.packed t=c.P.packed t from iM c.T c.F c.G t]) (aI (fun _=>ay _) fun _=>ag _)
theorem dF(s:String)(t:κ):TT c (noPackMethods s t):=by unfold noPackMethods;refine aM ?_ (aM rfl (aI (fun _=>ay _) fun _=>ag _));simp only[Ctx.Q,Ctx.P,ie c.T c.F c.G];rfl
theorem re(s:String)(t:κ):TT c (noPackNamed s t):=by unfold noPackNamed;refine aM ?_ (aM rfl (aI (fun _=>ay _) fun _=>ag _));simp only[Ctx.Q,Ctx.P,je c.T c.F c.G];rfl
theorem rh(t:κ):TT c (spelt t):=ae (re _ _) fun _=>Av _
theorem jn(t:κ):TT c (under t):=by
 unfold under;refine ae (bF _) fun i=>?_
 split
 ·exact ae (bF _) fun _=>ag _
 ·exact ag _
theorem qB(t:κ):TT c (kind t):=by
 unfold kind;refine ae (jn _) fun i=>?_
 dsimp only;split<;>first|exact ag _|exact ai _
theorem ri(t:κ):TT c (hasName t):=by
 unfold hasName;refine ae (bF _) fun i=>?_
 split<;>exact ag _
theorem xF(t:κ):TT c (elem? t):=by
 unfold elem?;refine ae (jn _) fun i=>?_
 split<;>exact ag _
theorem i6(t v:κ):TT c (implements t v):=by
 unfold implements;refine ae (dF _ _) fun _=>ae (dF _ _) fun _=>ae (jn _) fun _=>ae (jn _) fun _=>?_
 split
 ·exact ag _
 ·exact ae (bF _) fun _=>ag _
 ·exact ag _
theorem fY(t v:κ):TT c (directlyAssignable t v):=by
 unfold directlyAssignable;dsimp only;have rest:TT c (do
  let(t,ti)<-under t
  let(v,vi)<-under v
  match ti.desc,vi.desc with
  |.chan _ e,.chan .both e'=>pure (t==v||e==e')
  |_,_=>pure (t==v):ZD Bool):=by
  refine ae (jn _) fun _=>ae (jn _) fun _=>?_
  dsimp only;split<;>exact ag _
 exact aI (fun _=>ag _) fun _=>ae (ri _) fun _=>ae (ri _) fun _=>aI (fun _=>ag _) fun _=>rest
open Go.Extern.ReflectliteType in
theorem oN(t:κ):TT c (toType t):=ae (qT _) fun _=>ae (t9 _) fun _=>ag _
open Go.Extern.ReflectliteType in
theorem mR(v:Ξ):TT c (ofRtype v):=by
 unfold ofRtype;cases v with
 |agg cs=>
  obtain⟨l⟩:=cs
  match l with
  |[]=>exact ai _
  |[h]=>exact ae (iQ _) fun _=>ae (lL _ _) fun _=>ag _
  |_::_::_=>exact ai _
 |_=>exact ai _
open Go.Extern.ReflectliteType in
theorem DX(args:Array Ξ):TT c (typeOf args):=by
 unfold typeOf;obtain⟨l⟩:=args
 match l with
 |[]=>exact ai _
 |[h]=>cases h with
  |nilIface=>exact ag _
  |iface t v=>exact oN t
  |_=>exact ai _
 |_::_::_=>exact ai _
open Go.Extern.ReflectliteType in
theorem xG(f:κ->ZD Ξ)(hf:∀t,TT c (f t))(args:Array Ξ):TT c (Go.Extern.ReflectliteType.method f args):=by
 unfold Go.Extern.ReflectliteType.method;obtain⟨l⟩:=args
 match l with
 |[]=>exact ai _
 |[h]=>exact ae (mR _) fun _=>hf _
 |_::_::_=>exact ai _
open Go.Extern.ReflectliteType in
theorem DY(t:κ):TT c (elem t):=by
 unfold elem;refine ae (xF _) fun e=>?_
 split
 ·exact oN _
 ·exact ae (rh _) fun _=>fC _
open Go.Extern.ReflectliteType in
theorem pE(s:String)(f:κ->κ->ZD Bool)(hf:∀t u,TT c (f t u))(args:Array Ξ):TT c (relation s f args):=by
 unfold relation;obtain⟨l⟩:=args
 match l with
 |[]=>exact ai _
 |[h]=>exact ai _
 |[h,i]=>cases i with
  |nilIface=>exact fC _
  |iface t v=>exact ae (mR _) fun _=>ae (mR _) fun _=>ae (hf _ _) fun _=>ag _
  |_=>exact ai _
 |_::_::_::_=>exact ai _
open Go.Extern.ReflectliteType in
theorem rj(u t:κ):TT c (implements_ u t):=by
 unfold implements_;refine ae (qB _) fun _=>?_
 have rest:TT c (do noPackMethods "Implements" t;noPack "Implements" u;implements u t:ZD Bool):=ae (dF _ _) fun _=>ae (lL _ _) fun _=>i6 _ _
 exact aI (fun _=>ae (fC _) fun _=>rest) fun _=>rest
open Go.Extern.ReflectliteType in
theorem qo(u t:κ):TT c (assignableTo u t):=by
 unfold assignableTo;have rest:TT c (do pure ((<-directlyAssignable u t)||(<-implements u t)):ZD Bool):=by exact ae (fY _ _) fun _=>ae (i6 _ _) fun _=>ag _
 exact aI (fun _=>ae (dF _ _) fun _=>ae (dF _ _) fun _=>rest) fun _=>rest
open Go.Extern.ReflectliteType in
theorem vr(f:κ->ZD Ξ)(hf:∀t,TT c (f t))(args:Array Ξ):TT c (abiMethod f args):=by
 unfold abiMethod;obtain⟨l⟩:=args
 match l with
 |[]=>exact ai _
 |[h]=>exact ae (iQ _) fun _=>ae (lL _ _) fun _=>hf _
 |_::_::_=>exact ai _
end
section
variable{c:Ctx}
open Go.Extern.ReflectliteValue
theorem QE(t:κ)(a:Addr)(f:Nat):TT c (mk t a f):=ae (t9 _) fun _=>ae (qB _) fun _=>ag _
theorem ua(v:Ξ):TT c (unpack v):=by
 unfold unpack;split
 ·exact ag _
 ·exact ae (iq _ _) fun _=>QE _ _ _
 ·exact ai _
theorem d8{α:Type}(s:String)(k:Nat):TT c (valueError s k:ZD α):=ae (qT _) fun _=>ae (oC _) fun _=>ae (iq _ _) fun _=>f7 _
theorem pF(v:Ξ):TT c (partsAny v):=by
 unfold partsAny;cases v with
 |agg cs=>
  obtain⟨l⟩:=cs
  match l with
  |[]=>exact ai _
  |[_]=>exact ai _
  |[_,_]=>exact ai _
  |[h,p,f]=>
   cases f with
   |int k n=>
    cases k with
    |u64=>
     have d:∀m:Int,(match m with|0=>False|_=>True) ->TT c (partsAny (.agg #[h,p,.int .u64 m])):=by
      intro m b;cases p with
      |pointer a=>
       cases a with
       |some a=>
        cases m with
        |ofNat k=>cases k with
         |zero=>cases b
         |succ k=>exact ae (iQ _) fun _=>ag _
        |negSucc k=>exact ae (iQ _) fun _=>ag _
       |none=>
        cases m with
        |ofNat k=>cases k with
         |zero=>cases b
         |succ k=>exact ai _
        |negSucc k=>exact ai _
      |_=>
       cases m with
       |ofNat k=>cases k with
        |zero=>cases b
        |succ k=>exact ai _
       |negSucc k=>exact ai _
     cases n with
     |ofNat k=>cases k with
      |zero=>exact ag _
      |succ k=>exact d (.ofNat (k+1)) trivial
     |negSucc k=>exact d (.negSucc k) trivial
    |_=>exact ai _
   |_=>exact ai _
  |_::_::_::_::_=>exact ai _
 |_=>exact ai _
theorem rl(v:Ξ):TT c (parts v):=by
 unfold parts;refine ae (pF _) fun r=>?_
 split
 ·exact ae (lL _ _) fun _=>ag _
 ·exact ag _
theorem pG(z:ZD Ξ)(f:κ->Addr->Nat->Nat->ZD Ξ)(hz:TT c z)(hf:∀t a n k,TT c (f t a n k))(args:Array Ξ):TT c (Z9 z f args):=by
 unfold Z9;obtain⟨l⟩:=args
 match l with
 |[]=>exact ai _
 |[h]=>
  refine ae (rl _) fun r=>?_
  split
  ·exact hz
  ·exact hf _ _ _ _
 |_::_::_=>exact ai _
theorem ro(z:ZD Ξ)(f:κ->Addr->Nat->Nat->ZD Ξ)(hz:TT c z)(hf:∀t a n k,TT c (f t a n k))(args:Array Ξ):TT c (methodAny z f args):=by
 unfold methodAny;obtain⟨l⟩:=args
 match l with
 |[]=>exact ai _
 |[h]=>
  refine ae (pF _) fun r=>?_
  split
  ·exact hz
  ·exact hf _ _ _ _
 |_::_::_=>exact ai _
theorem AV(t:κ)(a:Addr)(n k:Nat):TT c (isNil t a n k):=by
 unfold isNil;have rest:TT c (do match<-loadVar t a with
  |.chan ψ|.nilFunc|.nilIface|.map ψ|.pointer ψ|.slice ψ _ _=>pure (.bool Ψ)
  |_=>pure (.bool χ):ZD Ξ):=by
  refine ae (fa _ _) fun v=>?_
  split<;>exact ag _
 exact aI (fun _=>ae (d8 _ _) fun _=>rest) fun _=>rest
theorem DZ(t:κ)(a:Addr)(n k:Nat):TT c (Z7 t a n k):=by
 unfold Z7;have rest:TT c (do match k,<-loadVar t a,<-Extern.Rtype.elem? t with
  |20,i,_=>unpack i
  |22,.pointer ψ,_=>pure zeroV
  |22,.pointer (φ p),φ e=>mk e p flagAddr
  |_,_,_=>valueError "reflectlite.Value.Elem" k:ZD Ξ):=by
  refine ae (fa _ _) fun v=>ae (xF _) fun e=>?_
  split
  ·exact ua _
  ·exact ag _
  ·exact QE _ _ _
  ·exact d8 _ _
 exact aI (fun _=>ae (d8 _ _) fun _=>rest) fun _=>rest
theorem FT(args:Array Ξ):TT c (Z0 args):=by
 unfold Z0;obtain⟨l⟩:=args
 match l with
 |[]=>exact ai _
 |[_]=>exact ai _
 |[v,x]=>
  refine ae (rl _) fun r=>ae (rl _) fun q=>?_
  split
  ·have rest:∀d a e b,TT c (do
    let f<-loadVar e b
    if<-Extern.Rtype.directlyAssignable d e then storeVar d a f
    else if<-Extern.Rtype.implements d e then
     if(<-Extern.Rtype.kind e)==20 then
      match f with
      |.nilIface=>unsupported (.noEntry "extern/reflectlite: a nil value of one interface type handed on as a value of another")
      |_=>storeVar d a f
     else storeVar d a (.iface e f)
    else panicString ("reflectlite.Set: value of type "++(<-Extern.Rtype.spelt e)++ " is not assignable to type "++(<-Extern.Rtype.spelt d))
    pure (.tuple #[]):ZD Ξ):=by
    intro d a e b;refine ae (fa _ _) fun f=>ae (fY _ _) fun _=>aI (fun _=>ae (iL _ _ _) fun _=>ag _) fun _=>?_
    refine ae (i6 _ _) fun _=>aI (fun _=>?_) fun _=>?_
    ·refine ae (qB _) fun _=>aI (fun _=>?_) fun _=>ae (iL _ _ _) fun _=>ag _
     split
     ·exact ae (ay _) fun _=>ag _
     ·exact ae (iL _ _ _) fun _=>ag _
    ·exact ae (rh _) fun _=>ae (rh _) fun _=>ae (fC _) fun _=>ag _
   exact aI (fun _=>ae (ay _) fun _=>rest _ _ _ _) fun _=>rest _ _ _ _
  ·exact ay _
 |_::_::_::_=>exact ai _
end
structure vt(c:Ctx)(fn:ZH):Prop where
 name:(fn.name== "runtime.NumGoroutine")=χ
 body:fn.body.isNone=Ψ
 next:Extern.findNext fn=ψ
 row:∃e,Extern.find fn=φ e/\∀args,TT c (e args)
structure xH(fn:ZH):Prop where
 name:(fn.name== "runtime.NumGoroutine")=χ
 body:fn.body.isNone=Ψ
 next:Extern.findNext fn=ψ
 row:Extern.find fn=ψ
 init:(fn.name.endsWith ".init"&&!fn.name.startsWith "("&&!fn.name.startsWith "gosem.")=χ
inductive gV(c:Ctx):Option ZH->Option ZH->Prop where
 |none:gV c ψ ψ
 |oO (f g:ZH) (hf:f.body.isNone=χ) (hg:g.body.isNone=χ) (nf:(f.name== "runtime.NumGoroutine")=χ) (ng:(g.name== "runtime.NumGoroutine")=χ):gV c (φ f) (φ g)
 |row (f:ZH) (h:vt c f):gV c (φ f) (φ f)
 |dead (f:ZH) (g:Option ZH) (h:xH f):gV c (φ f) g
section
variable{c:Ctx}
theorem pH(h:∀f:Δ,gV c c.F[f]? c.G[f]?):jJ c:=by
 intro f b;unfold callFunc;have i:c.P.funcs[f]?=c.F[f]?:=rfl;have j:c.Q.funcs[f]?=c.G[f]?:=rfl;refine qS ?_;rw[i,j];have a:=h f;generalize c.F[f]?=x at a⊢;generalize c.G[f]?=y at a⊢;cases a with
 |none=>exact ai _
 |oO f g a k m n=>dsimp only;rw[m,n,a,k];exact ag _
 |row fn h=>obtain⟨e,d,l⟩:=h.row;dsimp only;rw[h.name,h.body,h.next,d];exact ae (tg _) fun _=>ae (l _) fun _=>ag _
 |dead fn g h=>dsimp only;rw[h.name,h.body,h.next,h.row,h.init];exact bO.stop fun u=>⟨_,u,rfl,by simp⟩
end
end
section
def Cq:Op->Bool
 |.defer _=>Ψ
 |_=>χ
def jK(L:bu)(r:Bool)(o:Oper):Bool:=AU L o.op&&!(r&&Cq o.op)
def be(L:bu):Bool->ZK->Bool
 |r,.region _ ops _=>ops.all (jK L r)
 |r,.seq a b=>be L r a&&be L r b
 |r,.cond _ a b=>be L r a&&be L r b
 |r,.block _ b=>be L r b
 |r,.loop b=>be L r b
 |r,.scope b=>be L r b
 |_,.rangeFunc _ _ a b=>be L Ψ a&&be L Ψ b
 |_,_=>Ψ
theorem xI{L:bu}{o:Oper}(h:jK L Ψ o=Ψ)(r:Bool):jK L r o=Ψ:=by
 unfold jK at h⊢;cases r with
 |true=>exact h
 |false=>simp at h⊢;exact h.1
theorem dM{L:bu}:∀{k:ZK} (r:Bool),be L Ψ k=Ψ->be L r k=Ψ
 |.region _ ops _,r,h=>by simp only[be,Array.all_eq_true]at h⊢;exact fun i hi=>xI (h i hi) r
 |.seq a b,r,h=>by simp only[be,Bool.and_eq_true]at h⊢;exact⟨dM r h.1,dM r h.2⟩
 |.cond _ a b,r,h=>by simp only[be,Bool.and_eq_true]at h⊢;exact⟨dM r h.1,dM r h.2⟩
 |.block _ b,r,h=>dM (k:=b) r h
 |.loop b,r,h=>dM (k:=b) r h
 |.scope b,r,h=>dM (k:=b) r h
 |.rangeFunc _ _ a b,r,h=>h
 |.skip,_,_=>rfl
 |.exit _,_,_=>rfl
 |.label _,_,_=>rfl
 |.goto _,_,_=>rfl
 |.ret,_,_=>rfl
 |.refuse _,_,_=>rfl
def dS(L:bu)(r:Bool):Item->Bool
 |.code k|.inLoop k|.inScope k=>be L r k
 |.inRegion ops _=>ops.all (jK L r)
 |.inBlock _|.inRangeFunc _|.endRangeFunc _|.beginRound=>Ψ
 |.call ..|.extern ..=>χ
def nF(d:ZO):Bool:=
 match d.target with
 |.builtin ..|.coroexit _=>χ
 |_=>Ψ
structure ge(c:Ctx)(L:bu)(sp:Δ):Prop where
 pair:∀f:Δ,gV c c.F[f]? c.G[f]?
 same:∀(f:Δ) (fn:ZH) (b:ZK),f≠sp->c.F[f]?=φ fn->fn.body=φ b->c.G[f]?=φ fn/\be L χ b=Ψ
 inits:∀(f:Δ) (fn:ZH) (b:ZK),c.F[f]?=φ fn->fn.body=φ b->c.T.inits.idxOf? f=ψ
 R7:∀g,c.P.stepOf g=ψ
 ahead:c.T.follows .staticDataAhead=Ψ
 tX:∀k,c.tX k↔be L Ψ k=Ψ
 okF:∀f,c.okF f↔f≠sp/\∃fn b,c.F[f]?=φ fn/\fn.body=φ b
 lists:L.Sound c.T
structure aJ(c:Ctx)(L:bu)(sp:Δ)(fr:ξ):Prop where
 fn:fr.fn≠sp/\∃f b,c.F[fr.fn]?=φ f/\f.body=φ b
 todo:∀i∈fr.todo,dS L fr.roundOf.isSome i=Ψ
 defers:∀d∈fr.defers,nF d=Ψ
 kind:fr.kind=.normal\/fr.kind=.deferred
section
variable{c:Ctx}{L:bu}{sp:Δ}{fr:ξ}
theorem aJ.finish(h:aJ c L sp fr)(v:Ξ):aJ c L sp (fr.finish v):=by
 obtain⟨f,q,todo,defers,mode,kind,t⟩:=fr;obtain⟨m,e,n,g⟩:=h;unfold Frame.finish;split
 ·rename_i o i rest k d;dsimp only at d e;subst d;exact⟨m,fun j p=>by
   rcases List.mem_cons.1 p with rfl|p
   ·exact e (.inRegion o (i::rest)) (by simp)
   ·exact e j (by simp[p]),n,g⟩
 ·rename_i l k d;dsimp only at d e;subst d;exact⟨m,fun i hi=>by
   rcases List.mem_cons.1 hi with rfl|hi
   ·rfl
   ·exact e i (by simp[hi]),n,g⟩
 ·rename_i k d;dsimp only at d e;subst d;exact⟨m,fun i hi=>e i (by simp[hi]),n,g⟩
 ·rename_i a b r s k d;dsimp only at d e;subst d;exact absurd (e (.call a b r s) (by simp)) (by simp[dS])
 ·rename_i a b k d;dsimp only at d e;subst d;exact absurd (e (.extern a b) (by simp)) (by simp[dS])
 ·exact⟨m,e,n,g⟩
theorem aJ.raise(h:aJ c L sp fr)(vs:List PanicEntry):aJ c L sp (fr.raise vs):=by unfold Frame.raise;split<;>exact⟨h.fn,h.todo,h.defers,h.kind⟩
theorem aJ.mode(h:aJ c L sp fr)(m:FrameMode):aJ c L sp {fr with mode:=m}:=⟨h.fn,h.todo,h.defers,h.kind⟩
theorem aJ.Cr(h:aJ c L sp fr)(t:List Item)(ht:∀i∈t,dS L fr.roundOf.isSome i=Ψ):aJ c L sp {fr with todo:=t}:=⟨h.fn,ht,h.defers,h.kind⟩
theorem aJ.qC(h:aJ c L sp fr)(t:List ZO)(ht:∀i∈t,nF i=Ψ):aJ c L sp {fr with defers:=t}:=⟨h.fn,h.todo,ht,h.kind⟩
theorem eS:∀{fr:ξ} {cs:List ξ} {v:Ξ} {cs':List ξ},(∀x∈cs,aJ c L sp x) ->ZT fr cs=φ (v,cs') ->∀x∈cs',aJ c L sp x
 |fr,[],v,cs',h,e=>by unfold ZT at e;split at e<;>simp_all
 |fr,caller::rest,v,cs',h,e=>by
  unfold ZT at e;split at e
  ·rename_i hk hc;cases hc
   split at e
   ·cases e
    intro x hx;rcases List.mem_cons.1 hx with rfl|hx
    ·exact(h caller (by simp)).mode _
    ·exact h x (by simp[hx])
   ·cases e
  ·rename_i hk hc;cases hc
   obtain⟨⟨v1,r1⟩,e1,e2⟩:=ι.1 e;cases e2
   intro x hx;rcases List.mem_cons.1 hx with rfl|hx
   ·exact h _ (by simp)
   ·exact eS (fun y hy=>h y (by simp[hy])) e1 x hx
  ·cases e
theorem eg:∀{l:Nat} {cs:List ξ} {v:Ξ} {cs':List ξ},(∀x∈cs,aJ c L sp x) ->ZQ l cs=φ (v,cs') ->∀x∈cs',aJ c L sp x
 |l,[],v,cs',h,e=>by simp[ZQ]at e
 |l,fr::rest,v,cs',h,e=>by
  unfold ZQ at e;obtain⟨⟨v1,r1⟩,e1,e2⟩:=ι.1 e;cases e2
  have hr:∀y∈rest,aJ c L sp y:=fun y hy=>h y (by simp[hy])
  intro x hx;rcases List.mem_cons.1 hx with rfl|hx
  ·exact h _ (by simp)
  ·split at e1
   ·exact eg hr e1 x hx
   ·split at e1
    ·exact eS hr e1 x hx
    ·exact eg hr e1 x hx
   ·exact eg hr e1 x hx
theorem oP{r:Bool}:∀{id:Nat} {k t:List Item},(∀i∈k,dS L r i=Ψ) ->exitTo id k=φ t->∀i∈t,dS L r i=Ψ
 |id,[],t,h,e=>by simp[exitTo]at e
 |id,i::k,t,h,e=>by
  have hk:∀i∈k,dS L r i=Ψ:=fun i hi=>h i (by simp[hi])
  unfold exitTo at e;split at e
  ·rename_i heq;cases heq
   split at e
   ·cases e;exact hk
   ·exact oP hk e
  ·rename_i heq;cases heq
   exact oP hk e
  ·rename_i heq;cases heq
theorem jL{r:Bool}:∀{b:ZK} {l:Nat} {t:ZK},be L r b=Ψ->findLabel b l=φ t->be L r t=Ψ
 |.seq a b,l,t,h,e=>by
  simp only[be,Bool.and_eq_true]at h;unfold findLabel at e;split at e
  ·rename_i t1 h1;cases e
   simp only[be,Bool.and_eq_true];exact⟨jL h.1 h1,h.2⟩
  ·exact jL h.2 e
 |.label l',l,t,h,e=>by
  unfold findLabel at e;split at e
  ·cases e;rfl
  ·cases e
 |.skip,_,_,_,e|.region _ _ _,_,_,_,e|.cond _ _ _,_,_,_,e|.block _ _,_,_,_,e|.loop _,_,_,_,e|.rangeFunc _ _ _ _,_,_,_,e|.exit _,_,_,_,e|.scope _,_,_,_,e|.goto _,_,_,_,e|.ret,_,_,_,e|.refuse _,_,_,_,e=>by simp[findLabel]at e
theorem oQ{r:Bool}:∀{l:Nat} {k t:List Item},(∀i∈k,dS L r i=Ψ) ->gotoIn l k=φ t->∀i∈t,dS L r i=Ψ
 |l,[],t,h,e=>by simp[gotoIn]at e
 |l,i::k,t,h,e=>by
  have hk:∀i∈k,dS L r i=Ψ:=fun i hi=>h i (by simp[hi])
  unfold gotoIn at e;split at e
  ·rename_i body k' heq;cases heq
   split at e
   ·rename_i rest hb;cases e
    have hb0:be L r body=Ψ:=h (.inScope body) (by simp);intro j hj;rcases List.mem_cons.1 hj with rfl|hj
    ·exact jL hb0 hb
    ·rcases List.mem_cons.1 hj with rfl|hj
     ·exact hb0
     ·exact hk j hj
   ·exact oQ hk e
  ·rename_i heq;cases heq
   exact oQ hk e
  ·rename_i heq;cases heq
end
end
section
def Yields{α:Type}(P:Θ)(x:ZD α)(Φ:α->Prop):Prop:=∀u a u',x.run P u=.ok a u'->Φ a
section
variable{c:Ctx}{L:bu}{sp:Δ}
theorem aW{α β:Type}{P:Θ}{x:ZD α}{f:α->ZD β}{Φ:β->Prop}(h:∀a,Yields P (f a) Φ):Yields P (x>>=f) Φ:=by
 intro u b c e;rw[η]at e;cases hx:x.run P u with
 |ok a u1=>rw[hx]at e;exact h a u1 b c e
 |halt r u1=>rw[hx]at e;cases e
theorem bQ{α:Type}{P:Θ}{a:α}{Φ:α->Prop}(h:Φ a):Yields P (pure a:ZD α) Φ:=by
 intro u b c e;cases e
 exact h
theorem iR{α:Type}{P:Θ}{Φ:α->Prop}(r:Halt):Yields P (.halt r:ZD α) Φ:=by intro u b a e;cases e
theorem vu{α:Type}{P:Θ}{Φ:α->Prop}(s:String):Yields P (stuck s:ZD α) Φ:=iR _
theorem cA{α:Type}{P:Θ}{Φ:α->Prop}(e:RuntimeError):Yields P (runtimePanic e:ZD α) Φ:=by
 unfold runtimePanic;refine aW fun p=>?_
 cases e with
 |typeAssertion i d a m=>exact aW fun _=>aW fun _=>iR _
 |panicNil=>exact aW fun _=>aW fun _=>iR _
 |_=>exact iR _
def eM(c:Ctx)(L:bu):Next->Prop
 |.value _|.skip|.recover=>True
 |.enter f _=>∃fn b,c.F[f]?=φ fn/\fn.body=φ b
 |.round _ f _ a b=>c.okF f/\be L Ψ a=Ψ/\be L Ψ b=Ψ
 |.defer d=>nF d=Ψ
 |_=>False
theorem i7(hF:ge c L sp)(f:Δ)(args:Array Ξ):Yields c.P (callFunc f args) (eM c L):=by
 intro u n l e;unfold callFunc at e;rw[η,kP]at e;simp only[Result.andThen_ok]at e;have d:=hF.pair f;rw[show c.P.funcs[f]?=c.F[f]? from rfl]at e;generalize j:c.F[f]?=x at d e;generalize c.G[f]?=y at d;cases d with
 |none=>cases e
 |oO fn g i o m q=>
  dsimp only at e;rw[m,i]at e;cases e
  cases hb:fn.body with
  |none=>rw[hb]at i;cases i
  |some b=>exact⟨fn,b,j,hb⟩
 |row fn h=>obtain⟨ex,k,p⟩:=h.row;dsimp only at e;rw[h.name,h.body,h.next,k]at e;exact(aW (Φ:=eM c L) fun _=>aW fun x=>bQ (a:=Next.value x) trivial) u n l e
 |dead fn g h=>dsimp only at e;rw[h.name,h.body,h.next,h.row,h.init]at e;cases e
theorem kx(hF:ge c L sp)(r:Ξ)(name:String)(args:Array Ξ):Yields c.P (callMethod r name args) (eM c L):=by
 unfold callMethod;split
 ·exact aW fun _=>aW fun _=>i7 hF _ _
 ·exact cA _
 ·exact vu _
theorem vv(b:Builtin)(a:Array κ)(t:κ)(cs:Array Bool)(args:Array Ξ)(h:jl c.T b a):Yields c.P (builtin b a t cs args) (eM c L):=by
 unfold builtin;cases b<;>first
  |exact False.elim h
  |exact aW fun _=>bQ trivial
  |exact bQ trivial
def ub(c:Ctx)(u:Γ):Prop:=∀(b:Nat) (o:ZW),u.heap[b]?=φ o->c.ok o
variable{u' u:Γ}{n:Next}
theorem pI{l:Nat}{r:Loop}(hs:ub c u)(e:(Z3 l).run c.P u=.ok r u'):c.ok (.loop r)/\u'=u:=by
 unfold Z3 getObj at e;simp only[bind,ZL,ZV]at e;split at e
 ·cases e
 ·rename_i o b a;split at e
  ·cases e
   exact⟨hs _ _ a,rfl⟩
  ·cases e
 ·cases e
theorem AW(hF:ge c L sp)(hs:ub c u){l:Nat}{args:Array Ξ}(e:(Instr.yield l args).run c.P u=.ok n u'):eM c L n:=by
 unfold Instr.yield at e;rw[η]at e;cases h:(Z3 l).run c.P u with
 |halt r u1=>rw[h]at e;cases e
 |ok r u1=>
  rw[h]at e;have g:=pI hs h;have b:=(c.loop _).1 g.1;have f:Yields c.P (do
   if args.size≠r.params.size then stuck "yield: the wrong number of arguments"
   pure (.round l r.fn ((r.params.zip args).foldl (fun d (t,a)=>d.setIfInBounds t a) r.tmps) r.assign r.body)) (eM c L):=by
   dsimp only;split
   ·exact aW fun _=>bQ ⟨b.1,(hF.tX _).1 b.2.1,(hF.tX _).1 b.2.2.1⟩
   ·exact bQ ⟨b.1,(hF.tX _).1 b.2.1,(hF.tX _).1 b.2.2.1⟩
  exact f u1 n u' e
theorem kV(hF:ge c L sp)(hs:ub c u){t:Target}{args:Array Ξ}(ht:nz c.T t)(ht':∀x,t≠.coroexit x)(e:(ZS t args).run c.P u=.ok n u'):eM c L n:=by
 unfold ZS at e;split at e
 ·exact absurd e (by intro e;exact(cA (Φ:=fun _=>False) _ u n u' e))
 ·exact vv _ _ _ _ _ ht u n u' e
 ·exact i7 hF _ _ u n u' e
 ·split at e
  ·exact kx hF _ _ _ u n u' e
  ·cases e
 ·split at e
  ·exact(aW fun _=>kx hF _ _ _) u n u' e
  ·cases e
 ·split at e
  ·exact(aW fun _=>i7 hF _ _) u n u' e
  ·cases e
 ·exact AW hF hs e
 ·cases e
 ·exact absurd rfl (ht' _)
theorem kW{P:Θ}{ρ:Operand->Ξ}{k:Call}{t:κ}{d:ZO}(e:(ZN ρ k t).run P u=.ok d u'):u'=u/\(∀x,d.target≠.coroexit x)/\((∀b,k.callee≠.builtin b) ->nF d=Ψ):=by
 unfold ZN at e;dsimp only at e;split at e
 ·rename_i b hb;cases e
  exact⟨rfl,by simp,fun h=>absurd hb (h _)⟩
 ·cases e
  exact⟨rfl,by simp,fun _=>rfl⟩
 ·unfold Deferred.ofValue at e;split at e<;>cases e<;>exact⟨rfl,by simp,fun _=>rfl⟩
theorem xJ(hF:ge c L sp)(hs:ub c u){ρ:Operand->Ξ}{o:Oper}(h:AU L o.op=Ψ)(e:(execOp ρ o).run c.P u=.ok n u'):eM c L n:=by
 obtain⟨B,op,l,pos,after,guard⟩:=o;unfold execOp at e;dsimp only at h e;have q:∀{x:ZD Ξ},(x>>=fun a=>pure (Next.value a)).run c.P u=.ok n u'->eM c L n:=fun e=>(aW (Φ:=eM c L) fun a=>bQ (a:=Next.value a) trivial) u n u' e
 have i:∀{x:ZD Unit},(x>>=fun a=>pure Next.skip).run c.P u=.ok n u'->eM c L n:=fun e=>(aW (Φ:=eM c L) fun _=>bQ (a:=Next.skip) trivial) u n u' e
 cases op with
 |call k=>
  dsimp only at e;rw[η]at e;cases hd:(ZN ρ k l).run c.P u with
  |halt r u1=>rw[hd]at e;cases e
  |ok d u1=>
   rw[hd]at e;obtain⟨rfl,A,_⟩:=kW hd;refine kV hF hs ?_ A e;unfold ZN at hd;obtain⟨j,z,p⟩:=k;cases j with
   |value f=>exact kU hd
   |invoke r m=>cases hd;trivial
   |builtin b=>cases hd;exact kT hF.lists h
 |defer k=>
  dsimp only at e;rw[η]at e;cases hd:(ZN ρ k l).run c.P u with
  |halt r u1=>rw[hd]at e;cases e
  |ok d u1=>
   rw[hd]at e;obtain⟨rfl,A,y⟩:=kW hd;cases e
   refine y fun b hb=>?_
   simp only[AU,hb]at h;cases h
 |nilCheck x=>
  dsimp only at e;have y:Yields c.P (match ρ x with
  |.pointer ψ|.nilIface|.nilFunc=>runtimePanic .nilDeref
  |.func (.method name) first captured=>
   match(first[0]?:Option Ξ)with
   |some .nilIface=>runtimePanic .nilDeref
   |some (.iface t w)=>do
    if(<-nilAhead ((<-program).types.size+Made.depth) t w name) !=φ χ then
     unsupported (.noEntry "op/nilCheck.the method's receiver behind this interface value is a nil pointer, or cannot be seen to be none, and the arguments act or may panic (ledger 612)")
    pure (.value (.func (.method name) first captured))
   |_=>pure (.value (.func (.method name) first captured))
  |x=>pure (.value x):ZD Next) (eM c L):=by
   split
   ·exact cA _
   ·exact cA _
   ·exact cA _
   ·split
    ·exact cA _
    ·refine aW fun _=>aW fun _=>?_
     dsimp only;split
     ·exact aW fun _=>bQ trivial
     ·exact bQ trivial
    ·exact bQ trivial
   ·exact bQ trivial
  exact y u n u' e
 |move x=>cases e;trivial
 |assign x=>cases e;trivial
 |pick a b d=>exact(aW (Φ:=eM c L) fun v=>bQ (a:=Next.value (if(v:Bool)=Ψ then ρ b else ρ d)) trivial) u n u' e
 |store t a x=>exact i e
 |mapUpdate t m k x=>exact i e
 |insert t m k x=>exact i e
 |go k=>cases h
 |send a b=>cases h
 |recv a b d=>cases h
 |select a b=>cases h
 |ready g=>cases h
 |entryStore t m s x=>cases h
 |_=>exact q e
end
end
section
structure OkG(c:Ctx)(L:bu)(sp:Δ)(g:Ω):Prop where
 frame:aJ c L sp g.frame
 callers:∀x∈g.callers,aJ c L sp x
 dying:g.dying=ψ
def After(c:Ctx)(L:bu)(sp:Δ)(g' g'':Ω):Prop:=
 (g''=g'/\OkG c L sp g')\/∃args kind cs,g'={frame:=ω c.P sp args kind,callers:=cs,status:=.running,dying:=ψ}/\g''={frame:=ω c.Q sp args kind,callers:=cs,status:=.running,dying:=ψ}/\
   ((kind=.normal\/kind=.deferred)/\cs≠[])/\∀x∈cs,aJ c L sp x
def Shape(g:Ω):Prop:=(∀d,g.dying=φ d->d.calling=χ)/\(g.status=.running\/g.status=.blocked\/g.status=.waiting\/g.status=.finished)
theorem aL{fr:ξ}{cs:List ξ}:Shape {frame:=fr,callers:=cs,status:=.running,dying:=ψ}:=⟨(fun d h=>by cases h),.inl rfl⟩
def c7(c:Ctx)(L:bu)(sp:Δ)(k:Nat)(u w:Γ)(s s':GStep):Prop:=
 match s with
 |.go g' u' _=>Shape g'/\(g'.status=.running->g'.dying=ψ->u'.drawn<=u.drawn+k->
   ∃g'' w' es',s'=.go g'' w' es'/\After c L sp g' g''/\Rel c.ok c.T.globals.size c.S (u.drawn+k-u'.drawn) u' w'/\kE c.S u u' w w'/\(∀e∈es',jG c.S u'.heap.size e)/\u.heap.size<=u'.heap.size)
 |.ended (.done v) u' _=>u'.drawn<=u.drawn+k->
   ∃w' es',s'=.ended (.done v) w' es'/\Rel c.ok c.T.globals.size c.S (u.drawn+k-u'.drawn) u' w'/\kE c.S u u' w w'/\(∀e∈es',jG c.S u'.heap.size e)/\u.heap.size<=u'.heap.size
 |.ended _ _ _=>True
 |_=>False
section
variable{c:Ctx}{L:bu}{sp:Δ}{fr:ξ}{cs:List ξ}{k:Nat}{u w:Γ}
theorem rp(h:aJ c L sp fr):(fr.kind==.early)=χ:=by rcases h.kind with e|e<;>rw[e]<;>rfl
theorem rq(hF:ge c L sp){f:Δ}{fn:ZH}{b:ZK}(hf:f≠sp)(h1:c.F[f]?=φ fn)(h2:fn.body=φ b)(args:Array Ξ)(kd:ZG):ω c.Q f args kd=ω c.P f args kd:=by have:=(hF.same f fn b hf h1 h2).1;unfold ω;rw[show c.Q.funcs[f]?=φ fn from this,show c.P.funcs[f]?=φ fn from h1]
theorem xK(hF:ge c L sp){f:Δ}{fn:ZH}{b:ZK}(hf:f≠sp)(h1:c.F[f]?=φ fn)(h2:fn.body=φ b)(args:Array Ξ){kd:ZG}(hk:kd=.normal\/kd=.deferred):aJ c L sp (ω c.P f args kd):=by refine⟨⟨hf,fn,b,h1,h2⟩,fun i hi=>?_,by simp[ω],hk⟩;unfold ω at hi⊢;rw[show c.P.funcs[f]?=φ fn from h1]at hi;simp only[Option.bind_some,h2,Option.getD_some,List.mem_singleton]at hi;subst hi;exact(hF.same f fn b hf h1 h2).2
theorem pJ(hF:ge c L sp){f:Δ}(h:∃fn b,c.F[f]?=φ fn/\fn.body=φ b)(args:Array Ξ){kd:ZG}(hk:kd=.normal\/kd=.deferred)(hcs:∀x∈cs,aJ c L sp x)(hne:cs≠[]):
 After c L sp {frame:=ω c.P f args kd,callers:=cs,status:=.running,dying:=ψ} {frame:=ω c.Q f args kd,callers:=cs,status:=.running,dying:=ψ}:=by
 obtain⟨fn,b,d,e⟩:=h;by_cases a:f=sp
 ·subst a;exact .inr ⟨args,kd,cs,rfl,rfl,⟨hk,hne⟩,hcs⟩
 ·exact .inl ⟨by rw[rq hF a d e],xK hF a d e args hk,hcs,rfl⟩
theorem xL{l:Nat}{f:Δ}{tmps:Array Ξ}{a b:ZK}{kd:ZG}(hF:ge c L sp)(h:c.okF f/\be L Ψ a=Ψ/\be L Ψ b=Ψ)(hk:kd=.normal\/kd=.deferred):aJ c L sp (ZF l f tmps a b kd):=by
 refine⟨(hF.okF f).1 h.1,fun i hi=>?_,by simp[ZF],hk⟩;simp only[ZF,List.mem_cons,List.not_mem_nil,or_false]at hi;rcases hi with rfl|rfl|rfl
 ·exact h.2.1
 ·rfl
 ·exact h.2.2
theorem cx{p:Θ}{f:Δ}{es':Array Event}{B:Nat}(h:∀e∈es',jG c.S B e):∀e∈seen p f (#[]++es')++#[],jG c.S B e:=fun e a=>h e (by rw[Array.append_empty]at a;have:=ZC a;simpa using this)
theorem dD{α:Type}{p:Θ}{s:ZD α}{u:Γ}{r:Result α}(h:s.run p u=r):∃es,s.runT p u #[]=(r,es):=by refine⟨(s.runT p u #[]).2,?_⟩;rw[<-h,<-Sem.runT_fst p s u #[]]
theorem oR(hF:ge c L sp)(hfr:aJ c L sp fr)(hcs:∀x∈cs,aJ c L sp x){s:ZD Next}(hs:TT c s)(hR:Rel c.ok c.T.globals.size c.S k u w)(hn:∀n u',s.run c.P u=.ok n u'->eM c L n):
 c7 c L sp k u w (ε c.P Ψ fr cs ψ s u) (ε c.Q Ψ fr cs ψ s w):=by
 have B:=hs k u w hR;have H:∀x∈fr::cs,aJ c L sp x:=fun x D=>(List.mem_cons.1 D).elim (fun e=>e▸hfr) (hcs x)
 cases D:s.run c.P u with
 |ok n u'=>
  rw[D]at B;have E:=hn n u' D;have j:u.heap.size<=u'.heap.size:=by have:=(bY c.P s u).2;rwa[D]at this
  obtain⟨K,J⟩:=dD D;unfold ε;simp only[if_true,J,rp hfr,Bool.false_eq_true,if_false];cases n with
  |value v=>refine⟨aL,fun _ _ hd=>?_⟩;obtain⟨C,i,q1,z,p,q⟩:=B hd;rw[q1 #[]];exact⟨_,_,seen c.Q fr.fn (#[]++i)++#[],rfl,.inl ⟨rfl,hfr.finish v,hcs,rfl⟩,z,p,cx q,j⟩
  |skip=>refine⟨aL,fun _ _ hd=>?_⟩;obtain⟨C,i,q1,z,p,q⟩:=B hd;rw[q1 #[]];exact⟨_,_,seen c.Q fr.fn (#[]++i)++#[],rfl,.inl ⟨rfl,hfr.finish undef,hcs,rfl⟩,z,p,cx q,j⟩
  |enter f F=>refine⟨aL,fun _ _ hd=>?_⟩;obtain⟨C,i,q1,z,p,q⟩:=B hd;rw[q1 #[]];exact⟨_,_,seen c.Q fr.fn (#[]++i)++#[],rfl,pJ hF E F (.inl (by split<;>first|rfl|(rename_i d r s t I;exact absurd (hfr.todo (.call d Ψ r s) (by rw[I];simp)) (by simp[dS])))) H (by simp),z,p,cx q,j⟩
  |round l f M a b=>refine⟨aL,fun _ _ hd=>?_⟩;obtain⟨C,i,q1,z,p,q⟩:=B hd;rw[q1 #[]];exact⟨_,_,seen c.Q fr.fn (#[]++i)++#[],rfl,.inl ⟨rfl,xL hF E (.inl rfl),H,rfl⟩,z,p,cx q,j⟩
  |defer d=>refine⟨aL,fun _ _ hd=>?_⟩;obtain⟨C,i,q1,z,p,q⟩:=B hd;rw[q1 #[]];exact⟨_,_,seen c.Q fr.fn (#[]++i)++#[],rfl,.inl ⟨rfl,(hfr.qC (d::fr.defers) fun x D=>(List.mem_cons.1 D).elim (fun e=>e▸E) (hfr.defers x)).finish undef,hcs,rfl⟩,z,p,cx q,j⟩
  |recover=>
   have A:c.P.follows .rangeFuncRecover=c.T.follows .rangeFuncRecover:=rfl;have o:c.Q.follows .rangeFuncRecover=c.T.follows .rangeFuncRecover:=rfl;cases hro:fr.roundOf with
   |none=>
    cases hq:ZT fr cs with
    |none=>simp only[hro,hq];refine⟨aL,fun _ _ hd=>?_⟩;obtain⟨C,i,q1,z,p,q⟩:=B hd;rw[q1 #[]];simp only[hro,hq];exact⟨_,_,seen c.Q fr.fn (#[]++i)++#[],rfl,.inl ⟨rfl,hfr.finish _,hcs,rfl⟩,z,p,cx q,j⟩
    |some y=>obtain⟨v,G⟩:=y;simp only[hro,hq];refine⟨aL,fun _ _ hd=>?_⟩;obtain⟨C,i,q1,z,p,q⟩:=B hd;rw[q1 #[]];simp only[hro,hq];exact⟨_,_,seen c.Q fr.fn (#[]++i)++#[],rfl,.inl ⟨rfl,hfr.finish _,eS hcs hq,rfl⟩,z,p,cx q,j⟩
   |some l=>
    cases hfo:c.T.follows .rangeFuncRecover with
    |true=>
     cases hq:ZT fr cs with
     |none=>simp only[hro,hq,A,o,hfo,if_true];refine⟨aL,fun _ _ hd=>?_⟩;obtain⟨C,i,q1,z,p,q⟩:=B hd;rw[q1 #[]];simp only[hro,hq,A,o,hfo,if_true];exact⟨_,_,seen c.Q fr.fn (#[]++i)++#[],rfl,.inl ⟨rfl,hfr.finish _,hcs,rfl⟩,z,p,cx q,j⟩
     |some y=>obtain⟨v,G⟩:=y;simp only[hro,hq,A,o,hfo,if_true];refine⟨aL,fun _ _ hd=>?_⟩;obtain⟨C,i,q1,z,p,q⟩:=B hd;rw[q1 #[]];simp only[hro,hq,A,o,hfo,if_true];exact⟨_,_,seen c.Q fr.fn (#[]++i)++#[],rfl,.inl ⟨rfl,hfr.finish _,eS hcs hq,rfl⟩,z,p,cx q,j⟩
    |false=>
     cases hq:ZQ l cs with
     |none=>simp only[hro,hq,A,o,hfo,Bool.false_eq_true,if_false];refine⟨aL,fun _ _ hd=>?_⟩;obtain⟨C,i,q1,z,p,q⟩:=B hd;rw[q1 #[]];simp only[hro,hq,A,o,hfo,Bool.false_eq_true,if_false];exact⟨_,_,seen c.Q fr.fn (#[]++i)++#[],rfl,.inl ⟨rfl,hfr.finish _,hcs,rfl⟩,z,p,cx q,j⟩
     |some y=>obtain⟨v,G⟩:=y;simp only[hro,hq,A,o,hfo,Bool.false_eq_true,if_false];refine⟨aL,fun _ _ hd=>?_⟩;obtain⟨C,i,q1,z,p,q⟩:=B hd;rw[q1 #[]];simp only[hro,hq,A,o,hfo,Bool.false_eq_true,if_false];exact⟨_,_,seen c.Q fr.fn (#[]++i)++#[],rfl,.inl ⟨rfl,hfr.finish _,eg hcs hq,rfl⟩,z,p,cx q,j⟩
  |_=>exact E.elim
 |halt r u'=>
  rw[D]at B;have j:u.heap.size<=u'.heap.size:=by have:=(bY c.P s u).2;rwa[D]at this
  obtain⟨K,J⟩:=dD D;unfold ε;simp only[if_true,J,rp hfr,Bool.false_eq_true,if_false];cases r with
  |panic v=>refine⟨aL,fun _ _ hd=>?_⟩;obtain⟨C,i,q1,z,p,q⟩:=B hd;rw[q1 #[]];exact⟨_,_,seen c.Q fr.fn (#[]++i)++#[],rfl,.inl ⟨rfl,hfr.raise _,hcs,rfl⟩,z,p,cx q,j⟩
  |goexit=>exact⟨aL,fun _ _ hd=>(B hd).elim⟩
  |blocked=>exact⟨⟨(fun d h=>by cases h),.inr (.inl rfl)⟩,fun h=>by cases h⟩
  |waiting=>exact⟨⟨(fun d h=>by cases h),.inr (.inr (.inl rfl))⟩,fun h=>by cases h⟩
  |exit n=>trivial
  |fatal m=>
   unfold endFatal dieOf;dsimp only;split
   ·exact⟨⟨(fun d h=>by cases h;rfl),.inl rfl⟩,fun _ h=>by cases h⟩
   ·trivial
   ·trivial
  |throw m=>exact⟨⟨(fun d h=>by cases h;rfl),.inl rfl⟩,fun _ h=>by cases h⟩
  |unsupported x=>
   cases x with
   |initOrder g=>unfold early;have N:c.P.follows .staticDataAhead=Ψ:=hF.ahead;simp only[N,hF.R7 g,Bool.not_true,Bool.false_eq_true,if_false];trivial
   |_=>trivial
  |stuck x=>trivial
theorem ik{p:Prop}[Decidable p]{a b a' b':GStep}(h:p->c7 c L sp k u w a a')(h':¬p->c7 c L sp k u w b b'):c7 c L sp k u w (if p then a else b) (if p then a' else b'):=by
 by_cases d:p
 ·rw[if_pos d,if_pos d];exact h d
 ·rw[if_neg d,if_neg d];exact h' d
theorem vw(hF:ge c L sp)(hfr:aJ c L sp fr)(hcs:∀x∈cs,aJ c L sp x){d:ZO}(hd:nF d=Ψ)(hR:Rel c.ok c.T.globals.size c.S k u w):
 c7 c L sp k u w (ZR c.P fr cs ψ d u) (ZR c.Q fr cs ψ d w):=by
 unfold ZR;refine ik (fun _=>trivial) fun _=>?_
 have H:jJ c:=pH hF.pair;have F:nz c.T d.target:=by unfold nF at hd;cases h:d.target<;>rw[h]at hd<;>first|trivial|cases hd
 have B:∀x,d.target≠.coroexit x:=by intro x h;unfold nF at hd;rw[h]at hd;cases hd
 have q:=jm H d.target d.args F k u w hR;have A:∀x∈fr::cs,aJ c L sp x:=fun x s=>(List.mem_cons.1 s).elim (fun e=>e▸hfr) (hcs x)
 cases s:(ZS d.target d.args).run c.P u with
 |ok n D=>
  rw[s]at q;have t:=kV hF hR.safe F B s;have i:u.heap.size<=D.heap.size:=by have:=(bY c.P (ZS d.target d.args) u).2;rwa[s]at this
  obtain⟨E,C⟩:=dD s;simp only[C];cases n with
  |value v=>refine⟨aL,fun _ _ hd=>?_⟩;obtain⟨y,g,q1,p,j,o⟩:=q hd;rw[q1 #[]];exact⟨_,_,seen c.Q fr.fn (#[]++g)++#[],rfl,.inl ⟨rfl,hfr,hcs,rfl⟩,p,j,cx o,i⟩
  |skip=>refine⟨aL,fun _ _ hd=>?_⟩;obtain⟨y,g,q1,p,j,o⟩:=q hd;rw[q1 #[]];exact⟨_,_,seen c.Q fr.fn (#[]++g)++#[],rfl,.inl ⟨rfl,hfr,hcs,rfl⟩,p,j,cx o,i⟩
  |enter f z=>refine⟨aL,fun _ _ hd=>?_⟩;obtain⟨y,g,q1,p,j,o⟩:=q hd;rw[q1 #[]];exact⟨_,_,seen c.Q fr.fn (#[]++g)++#[],rfl,pJ hF t z (.inr rfl) A (by simp),p,j,cx o,i⟩
  |round l f G a b=>refine⟨aL,fun _ _ hd=>?_⟩;obtain⟨y,g,q1,p,j,o⟩:=q hd;rw[q1 #[]];exact⟨_,_,seen c.Q fr.fn (#[]++g)++#[],rfl,.inl ⟨rfl,xL hF t (.inr rfl),A,rfl⟩,p,j,cx o,i⟩
  |defer e=>refine⟨aL,fun _ _ hd=>?_⟩;obtain⟨y,g,q1,p,j,o⟩:=q hd;rw[q1 #[]];exact⟨_,_,seen c.Q fr.fn (#[]++g)++#[],rfl,.inl ⟨rfl,hfr,hcs,rfl⟩,p,j,cx o,i⟩
  |recover=>
   cases hm:fr.mode<;>cases hq:ZT fr cs<;>simp only[hm,hq]<;>refine⟨aL,fun _ _ hd=>?_⟩<;>obtain⟨y,g,q1,p,j,o⟩:=q hd<;>rw[q1 #[]]<;>simp only[hm,hq]<;>
    first
    |exact⟨_,_,seen c.Q fr.fn (#[]++g)++#[],rfl,.inl ⟨rfl,hfr,hcs,rfl⟩,p,j,cx o,i⟩
    |exact⟨_,_,seen c.Q fr.fn (#[]++g)++#[],rfl,.inl ⟨rfl,hfr,eS hcs hq,rfl⟩,p,j,cx o,i⟩
  |_=>exact t.elim
 |halt r D=>
  rw[s]at q;have i:u.heap.size<=D.heap.size:=by have:=(bY c.P (ZS d.target d.args) u).2;rwa[s]at this
  obtain⟨E,C⟩:=dD s;simp only[C];cases r with
  |panic v=>refine⟨aL,fun _ _ hd=>?_⟩;obtain⟨y,g,q1,p,j,o⟩:=q hd;rw[q1 #[]];exact⟨_,_,seen c.Q fr.fn (#[]++g)++#[],rfl,.inl ⟨rfl,hfr.raise _,hcs,rfl⟩,p,j,cx o,i⟩
  |goexit=>exact⟨aL,fun _ _ hd=>(q hd).elim⟩
  |blocked=>exact⟨⟨(fun d h=>by cases h),.inr (.inl rfl)⟩,fun h=>by cases h⟩
  |waiting=>exact⟨⟨(fun d h=>by cases h),.inr (.inr (.inl rfl))⟩,fun h=>by cases h⟩
  |exit n=>trivial
  |fatal m=>
   unfold endFatal dieOf;dsimp only;split
   ·exact⟨⟨(fun d h=>by cases h;rfl),.inl rfl⟩,fun _ h=>by cases h⟩
   ·trivial
   ·trivial
  |throw m=>exact⟨⟨(fun d h=>by cases h;rfl),.inl rfl⟩,fun _ h=>by cases h⟩
  |unsupported x=>trivial
  |stuck x=>trivial
theorem AX(fn:ZH)(tmps:Array Ξ):TT c (ZJ fn tmps):=by
 unfold ZJ;refine ae (xh (fun x=>?_) _) fun a=>ag _
 split
 ·exact ag _
 ·exact ae (lJ _) fun _=>fa _ _
theorem oS{u u':Γ}{b:Nat}{ds:List ZO}(hs:ub c u)(e:(Z4 b).run c.P u=.ok ds u'):ds=[]:=by
 unfold Z4 getObj setObj at e;simp only[bind,ZL,ZV]at e;split at e
 ·cases e
 ·rename_i o f d;split at e
  ·rename_i a hc;have:=(c.deferred _).1 (hs _ _ d);simp only[ZV]at e;split at e
   ·cases e
   ·cases e
    simpa using this
   ·cases e
  ·cases e
 ·cases e
end
end
section
section
variable{c:Ctx}{L:bu}{sp:Δ}{fr:ξ}{cs:List ξ}{k:Nat}{u w:Γ}
theorem ru{s s':GStep}{u1 w1:Γ}{es0 es1:Array Event}(hd1:u1.drawn<=u.drawn+k)(hm:u.drawn<=u1.drawn)(hK:kE c.S u u1 w w1)(he:∀e∈es1,jG c.S u1.heap.size e)(hsz:u.heap.size<=u1.heap.size)(h:c7 c L sp (u.drawn+k-u1.drawn) u1 w1 s s'):
 c7 c L sp k u w (υ es0 s) (υ es1 s'):=by
 cases s with
 |go x f q=>
  refine⟨h.1,fun p n r=>?_⟩;obtain⟨i,j,b,q1,t,l,g,m,d⟩:=h.2 p n (by omega);refine⟨i,j,es1++b,by rw[q1];rfl,t,by rw[show u.drawn+k-f.drawn=u1.drawn+(u.drawn+k-u1.drawn) -f.drawn by omega];exact l,hK.trans g,fun e a=>?_,Nat.le_trans hsz d⟩;rcases Array.mem_append.1 a with a|a
  ·exact(he e a).mono d
  ·exact m e a
 |ended o f q=>
  cases o with
  |done v=>
   intro r;obtain⟨j,b,q1,l,g,m,d⟩:=h (by omega);refine⟨j,es1++b,by rw[q1];rfl,by rw[show u.drawn+k-f.drawn=u1.drawn+(u.drawn+k-u1.drawn) -f.drawn by omega];exact l,hK.trans g,fun e a=>?_,Nat.le_trans hsz d⟩;rcases Array.mem_append.1 a with a|a
   ·exact(he e a).mono d
   ·exact m e a
  |_=>trivial
 |_=>exact h.elim
theorem xM(hF:ge c L sp)(hfr:aJ c L sp fr)(hcs:∀x∈cs,aJ c L sp x)(v:Ξ):
 (∃g',Shape g'/\(∀u,ZZ c.P Ψ fr cs ψ v u=.go g' u)/\(∀u,ZZ c.Q Ψ fr cs ψ v u=.go g' u)/\OkG c L sp g')\/
 ((∀u,ZZ c.P Ψ fr cs ψ v u=.ended (.done v) u)/\∀u,ZZ c.Q Ψ fr cs ψ v u=.ended (.done v) u):=by
 unfold ZZ;cases cs with
 |cons a rest=>
  have d:=hcs a (by simp);have g:∀x∈rest,aJ c L sp x:=fun x j=>hcs x (by simp[j])
  left;dsimp only;rcases hfr.kind with e|e<;>rw[e]<;>dsimp only
  ·exact⟨_,aL,fun _=>rfl,fun _=>rfl,d.finish v,g,rfl⟩
  ·refine⟨_,aL,fun _=>rfl,fun _=>rfl,?_,g,rfl⟩;dsimp only;split
   ·split
    ·exact d.mode _
    ·exact d.mode _
   ·exact d
 |nil=>
  right;dsimp only;obtain⟨hs,f,b,d,g⟩:=hfr.fn;have hi:=hF.inits _ f b d g;have h:c.P.inits.idxOf? fr.fn=ψ:=hi;have i:c.Q.inits.idxOf? fr.fn=ψ:=hi;rcases hfr.kind with e|e<;>simp only[e,h,i,Bool.not_true,Bool.false_eq_true,if_false]<;>
   exact⟨fun _=>trivial,fun _=>trivial⟩
theorem pK(hF:ge c L sp)(hfr:aJ c L sp fr)(hcs:∀x∈cs,aJ c L sp x)(v:Ξ){u1:Γ}{es0:Array Event}{s':GStep}(hsz:u.heap.size<=u1.heap.size)
 (h:u1.drawn<=u.drawn+k->∃w1 es1,s'=υ es1 (ZZ c.Q Ψ fr cs ψ v w1)/\Rel c.ok c.T.globals.size c.S (u.drawn+k-u1.drawn) u1 w1/\kE c.S u u1 w w1/\∀e∈es1,jG c.S u1.heap.size e):
 c7 c L sp k u w (υ es0 (ZZ c.P Ψ fr cs ψ v u1)) s':=by
 rcases xM hF hfr hcs v with⟨j,h0,d,b,i⟩|⟨d,b⟩
 ·rw[d];refine⟨h0,fun _ _ hd=>?_⟩;obtain⟨w1,es1,q1,g,f,a⟩:=h hd;exact⟨j,w1,es1++#[],by rw[q1,b];rfl,.inl ⟨rfl,i⟩,g,f,by simpa using a,hsz⟩
 ·rw[d];intro hd;obtain⟨w1,es1,q1,g,f,a⟩:=h hd;exact⟨w1,es1++#[],by rw[q1,b];rfl,g,f,by simpa using a,hsz⟩
theorem rx{p:Θ}{f:Δ}{es':Array Event}{B:Nat}(h:∀e∈es',jG c.S B e):∀e∈seen p f (#[]++es'),jG c.S B e:=fun e a=>h e (by have:=ZC a;simpa using this)
theorem ry(hF:ge c L sp)(hfr:aJ c L sp fr)(hcs:∀x∈cs,aJ c L sp x)(hR:Rel c.ok c.T.globals.size c.S k u w):
 c7 c L sp k u w (unwind c.P Ψ fr cs ψ u) (unwind c.Q Ψ fr cs ψ w):=by
 have I:u.drawn+k-u.drawn=k:=by omega
 unfold unwind;split
 ·rename_i block D ds l;have s:∀x∈ds,nF x=Ψ:=fun x a=>hfr.defers x (by rw[l];simp[a])
  have m:=qn (c:=c) block k u w hR;cases a:(Z4 block).run c.P u with
  |ok A n=>
   rw[a]at m;obtain⟨j,g⟩:=dD a;have p:=oS hR.safe a;have i:u.heap.size<=n.heap.size:=by have:=(bY c.P (Z4 block) u).2;rwa[a]at this
   simp only[g];refine⟨aL,fun _ _ hd=>?_⟩;obtain⟨C,o,q1,B,y,z⟩:=m hd;rw[q1 #[]];exact⟨_,_,seen c.Q fr.fn (#[]++o)++#[],rfl,.inl ⟨rfl,hfr.qC _ (by subst p;exact s),hcs,rfl⟩,B,y,cx z,i⟩
  |halt r n=>obtain⟨j,g⟩:=dD a;simp only[g];trivial
 ·rename_i d ds l q;exact vw hF (hfr.qC ds fun x a=>hfr.defers x (by rw[q];simp[a])) hcs (hfr.defers d (by rw[q];simp)) hR
 ·obtain⟨hs,f,b,F,H⟩:=hfr.fn;have G:c.P.funcs[fr.fn]?=φ f:=F;have E:c.Q.funcs[fr.fn]?=φ f:=(hF.same _ _ _ hs F H).1;split
  ·trivial
  ·rename_i t J;have e1:fr.catches c.P=χ:=by unfold Frame.catches;rw[G]
   have e2:fr.catches c.Q=χ:=by unfold Frame.catches;rw[E]
   simp only[e1,e2,Bool.false_eq_true,if_false];cases cs with
   |cons e rest=>exact⟨aL,fun _ _ hd=>⟨_,_,#[],rfl,.inl ⟨rfl,(hcs e (by simp)).raise _,fun x a=>hcs x (by simp[a]),rfl⟩,by rw[I];exact hR,.refl _ _,by simp,Nat.le_refl _⟩⟩
   |nil=>
    dsimp only;refine ik (fun _=>⟨⟨(fun d h=>by cases h),.inr (.inr (.inr rfl))⟩,fun h=>by cases h⟩) fun _=>?_
    split
    ·exact⟨⟨(fun d h=>by cases h;rfl),.inl rfl⟩,fun _ h=>by cases h⟩
    ·trivial
    ·trivial
  ·rw[G,E];dsimp only;have m:=AX (c:=c) f fr.tmps k u w hR;cases a:(ZJ f fr.tmps).run c.P u with
   |ok v n=>
    rw[a]at m;obtain⟨j,g⟩:=dD a;have i:u.heap.size<=n.heap.size:=by have:=(bY c.P (ZJ f fr.tmps) u).2;rwa[a]at this
    simp only[g];refine pK hF hfr hcs v i fun hd=>?_
    obtain⟨C,o,q1,B,y,z⟩:=m hd;rw[q1 #[]];exact⟨C,_,rfl,B,y,rx z⟩
   |halt r n=>obtain⟨j,g⟩:=dD a;simp only[g];cases r<;>trivial
theorem AY(hR:Rel c.ok c.T.globals.size c.S k u w){fr':ξ}(hfr:aJ c L sp fr')(hcs:∀x∈cs,aJ c L sp x):
 c7 c L sp k u w (.go {frame:=fr',callers:=cs,status:=.running,dying:=ψ} u) (.go {frame:=fr',callers:=cs,status:=.running,dying:=ψ} w):=
 ⟨aL,fun _ _ hd=>⟨_,_,#[],rfl,.inl ⟨rfl,hfr,hcs,rfl⟩,by rw[show u.drawn+k-u.drawn=k by omega];exact hR,.refl _ _,by simp,Nat.le_refl _⟩⟩
theorem xN(hF:ge c L sp){u u':Γ}{l:Nat}{j:Option ZK}(hs:ub c u)(e:(Z2 l).run c.P u=.ok j u'):∀x,j=φ x->be L Ψ x=Ψ:=by
 unfold Z2 at e;rw[η]at e;cases h:(Z3 l).run c.P u with
 |halt r u1=>rw[h]at e;cases e
 |ok r u1=>
  rw[h]at e;have f:=pI hs h;have b:=(c.loop _).1 f.1;have d:Yields c.P (do
   if r.state==.busy then runtimePanic (.error "range function recovered a loop body panic and did not resume panicking")
   setObj l (.loop {r with state:=.exhausted})
   pure r.pending) (fun j=>∀x,j=φ x->be L Ψ x=Ψ):=by
   dsimp only;split
   ·exact aW fun _=>aW fun _=>bQ fun x a=>(hF.tX _).1 (b.2.2.2 x a)
   ·exact aW fun _=>bQ fun x a=>(hF.tX _).1 (b.2.2.2 x a)
  exact d u1 j u' e
theorem tu{P:Θ}{u u':Γ}{fn:Δ}{tmps:Array Ξ}{ps:Array Tmp}{a b:ZK}{ar:Option Nat}{l:Nat}{m:List ZO}(e:(ZX fn tmps ps a b ar).run P u=.ok (l,m) u'):
 u'.drawn=u.drawn/\∀d∈m,nF d=Ψ:=by
 unfold ZX at e;cases ar with
 |none=>
  simp only[newObj,bind,ZL,ZV,Pure.pure]at e;cases e
  refine⟨rfl,fun d hd=>?_⟩;simp only[List.mem_singleton]at hd;subst hd;rfl
 |some r=>
  simp only[Z3,getObj,newObj,bind,ZL,ZV,Pure.pure]at e;split at e
  ·cases e
  ·split at e
   ·simp only[ZL,ZV]at e;cases e
    exact⟨rfl,by simp⟩
   ·cases e
  ·cases e
def vx(p:Θ)(fr:ξ)(callers:List ξ)(jump:Option ZK)(w:Γ):GStep:=
 match fr.roundOf with
 |none=>if jump matches ψ|some .ret then .go {frame:={fr with mode:=.returning},callers,status:=.running,dying:=ψ} w else .ended (.stuck "exit, goto: no such block or label" (fr.pos p)) w
 |some l=>
  let(r,es):=(ZM l jump).runT p w #[]
  υ (seen p fr.fn es)<|match r with
  |.ok v w=>ZZ p Ψ fr callers ψ v w
  |.halt _ w=>.ended (.stuck "range over a function: no such loop" (fr.pos p)) w
theorem lM(hF:ge c L sp)(hfr:aJ c L sp fr)(hcs:∀x∈cs,aJ c L sp x)(hR:Rel c.ok c.T.globals.size c.S k u w)(j:Option ZK)(hj:∀x,j=φ x->c.tX x):
 c7 c L sp k u w (vx c.P fr cs j u) (vx c.Q fr cs j w):=by
 obtain⟨f,e,todo,defers,mode,kind,n⟩:=fr;unfold vx;cases n with
 |none=>dsimp only;exact ik (fun _=>AY hR (hfr.mode .returning) hcs) fun _=>trivial
 |some l=>
  dsimp only;have g:=xD (c:=c) l j hj k u w hR;cases hx:(ZM l j).run c.P u with
  |ok v h=>
   rw[hx]at g;obtain⟨a,b⟩:=dD hx;have d:u.heap.size<=h.heap.size:=by have:=(bY c.P (ZM l j) u).2;rwa[hx]at this
   simp only[b];refine pK hF hfr hcs v d fun hd=>?_
   obtain⟨m,q,q1,p,o,i⟩:=g hd;rw[q1 #[]];exact⟨m,_,rfl,p,o,rx i⟩
  |halt r h=>obtain⟨a,b⟩:=dD hx;simp only[b];trivial
theorem FU(hF:ge c L sp)(hfr:aJ c L sp fr)(hcs:∀x∈cs,aJ c L sp x)(hR:Rel c.ok c.T.globals.size c.S k u w):
 c7 c L sp k u w (ο c.P Ψ Ψ fr cs ψ u) (ο c.Q Ψ Ψ fr cs ψ w):=by
 have hC:jJ c:=pH hF.pair;have J:∀x:ZK,(x=.ret\/(∃i,x=.exit i)\/∃i,x=.goto i) ->c.tX x:=fun x q=>(hF.tX x).2 (by rcases q with rfl|⟨i,rfl⟩|⟨i,rfl⟩<;>rfl)
 have to:∀(t:List Item),(∀i∈t,dS L fr.roundOf.isSome i=Ψ) ->c7 c L sp k u w (.go {frame:={fr with todo:=t},callers:=cs,status:=.running,dying:=ψ} u) (.go {frame:={fr with todo:=t},callers:=cs,status:=.running,dying:=ψ} w):=fun t ht=>AY hR (hfr.Cr t ht) hcs
 have ir:=hfr.todo;obtain⟨f,h,todo,defers,mode,kind,p⟩:=fr;cases todo with
 |nil=>exact lM hF hfr hcs hR ψ (by simp)
 |cons i rest=>
  have hi:dS L p.isSome i=Ψ:=ir i (by simp);have G:∀x∈rest,dS L p.isSome x=Ψ:=fun x q=>ir x (by simp[q])
  have two:∀{x y:Item},dS L p.isSome x=Ψ->dS L p.isSome y=Ψ->∀z∈x::y::rest,dS L p.isSome z=Ψ:=fun R X z hz=>by
   rcases List.mem_cons.1 hz with rfl|hz
   ·exact R
   ·rcases List.mem_cons.1 hz with rfl|hz
    ·exact X
    ·exact G z hz
  have one:∀{x:Item},dS L p.isSome x=Ψ->∀z∈x::rest,dS L p.isSome z=Ψ:=fun R z hz=>by
   rcases List.mem_cons.1 hz with rfl|hz
   ·exact R
   ·exact G z hz
  cases i with
  |code b=>
   cases b with
   |skip=>exact to rest G
   |region id A draw=>
    have g:A.all (jK L p.isSome)=Ψ:=hi;cases draw with
    |false=>exact to _ (one g)
    |true=>
     unfold ο;simp only[Bool.not_true,Bool.false_eq_true,if_false];have F:=cG (c:=c) (.order f id) k u w hR;cases q:(choose (.order f id)).run c.P u with
     |ok t C=>
      rw[q]at F;have B:u.heap.size<=C.heap.size:=by have:=(bY c.P (choose (.order f id)) u).2;rwa[q]at this
      refine⟨aL,fun _ _ hd=>?_⟩;obtain⟨V,E,q1,I,M,O⟩:=F hd;have e:(choose (.order f id)).run c.Q w=.ok t V:=by rw[<-Sem.runT_fst c.Q _ w #[],q1 #[]]
      rw[e];exact⟨_,_,#[],rfl,.inl ⟨rfl,hfr.Cr _ (one (x:=.inRegion A (Region.schedule (c.T.follows .mixedOrders) A t)) g),hcs,rfl⟩,I,M,by simp,B⟩
     |halt r C=>trivial
   |seq a b=>have g:(be L p.isSome a&&be L p.isSome b)=Ψ:=hi;rw[Bool.and_eq_true]at g;exact to _ (two g.1 g.2)
   |cond x a b=>
    have g:(be L p.isSome a&&be L p.isSome b)=Ψ:=hi;rw[Bool.and_eq_true]at g;unfold ο;dsimp only;split
    ·rename_i v _;cases v with
     |true=>exact to _ (one g.1)
     |false=>exact to _ (one g.2)
    ·trivial
   |block id b=>exact to _ (two hi rfl)
   |loop b=>exact to _ (two hi hi)
   |rangeFunc x Y a b=>
    have g:(be L Ψ a&&be L Ψ b)=Ψ:=hi;rw[Bool.and_eq_true]at g;have hff:c.okF f:=(hF.okF f).2 hfr.fn;unfold ο;dsimp only;have F:=vq (c:=c) f h Y a b p hff ((hF.tX _).2 g.1) ((hF.tX _).2 g.2) k u w hR;cases q:(ZX f h Y a b p).run c.P u with
    |ok lm C=>
     obtain⟨l,m⟩:=lm;rw[q]at F;obtain⟨N,K⟩:=dD q;have B:u.heap.size<=C.heap.size:=by have:=(bY c.P (ZX f h Y a b p) u).2;rwa[q]at this
     obtain⟨hdr,hmk⟩:=tu q;obtain⟨V,E,q1,I,M,O⟩:=F (by omega);simp only[K,q1 #[]];have U:aJ c L sp ⟨f,h,.inRangeFunc l::rest,m++defers,mode,kind,p⟩:=(hfr.Cr _ (one (x:=.inRangeFunc l) rfl)).qC (m++defers) fun d hd=>(List.mem_append.1 hd).elim (hmk d) (hfr.defers d)
     refine ru (by omega) (by omega) M (rx O) B ?_;refine oR hF U hcs ?_ I ?_
     ·exact Cp hC (ZY ⟨f,h,.inRangeFunc l::rest,m++defers,mode,kind,p⟩) x #[.const (.func (.yield l) #[] #[])]
     ·intro n u2 e;rw[η]at e;cases hd:(ZN (ZY ⟨f,h,.inRangeFunc l::rest,m++defers,mode,kind,p⟩) {callee:=.value x,args:=#[.const (.func (.yield l) #[] #[])],argTypes:=#[]} 0).run c.P C with
      |halt r u3=>rw[hd]at e;cases e
      |ok d u3=>rw[hd]at e;obtain⟨rfl,Z,_⟩:=kW hd;refine kV hF I.safe ?_ Z e;unfold ZN at hd;exact kU hd
    |halt r C=>obtain⟨N,K⟩:=dD q;simp only[K];trivial
   |exit id=>
    unfold ο;dsimp only;cases he:exitTo id rest with
    |none=>exact lM hF hfr hcs hR (φ (.exit id)) fun x q=>by cases q;exact J _ (.inr (.inl ⟨_,rfl⟩))
    |some t=>exact to t (oP G he)
   |scope b=>exact to _ (two hi hi)
   |label l=>exact to rest G
   |goto l=>
    unfold ο;dsimp only;cases he:gotoIn l rest with
    |none=>exact lM hF hfr hcs hR (φ (.goto l)) fun x q=>by cases q;exact J _ (.inr (.inr ⟨_,rfl⟩))
    |some t=>exact to t (oQ G he)
   |ret=>exact lM hF hfr hcs hR (φ .ret) fun x q=>by cases q;exact J _ (.inl rfl)
   |refuse why=>trivial
  |inBlock id=>exact to rest G
  |inLoop b=>exact to _ (two hi hi)
  |inScope b=>exact to rest G
  |inRegion A todo=>
   cases todo with
   |nil=>exact to rest G
   |cons i W=>
    unfold ο;dsimp only;have g:A.all (jK L p.isSome)=Ψ:=hi;refine ik (fun _=>?_) fun _=>AY hR (hfr.finish undef) hcs
    unfold stepG.oper;cases ho:A[i]? with
    |none=>simp only[ZE,ho];trivial
    |some o=>
     have D:jK L p.isSome o=Ψ:=by obtain⟨R,X⟩:=Array.getElem?_eq_some_iff.1 ho;rw[Array.all_eq_true]at g;have:=g i R;rwa[X]at this
     unfold jK at D;rw[Bool.and_eq_true]at D;have H:c7 c L sp k u w (ε c.P Ψ ⟨f,h,.inRegion A (i::W)::rest,defers,mode,kind,p⟩ cs ψ (execOp (ZY ⟨f,h,.inRegion A (i::W)::rest,defers,mode,kind,p⟩) o) u)
      (ε c.Q Ψ ⟨f,h,.inRegion A (i::W)::rest,defers,mode,kind,p⟩ cs ψ (execOp (ZY ⟨f,h,.inRegion A (i::W)::rest,defers,mode,kind,p⟩) o) w):=
      oR hF hfr hcs (DW hF.lists hC (fun v=>rfl) o D.1) hR fun n C e=>xJ hF hR.safe D.1 e
     simp only[ZE,ho];cases p with
     |none=>exact H
     |some l=>
      cases hop:o.op with
      |defer kk=>rw[hop]at D;simp[Cq]at D
      |_=>exact H
  |inRangeFunc l=>trivial
  |endRangeFunc l=>
   unfold ο;dsimp only;have F:=AM (c:=c) l k u w hR;cases q:(Z2 l).run c.P u with
   |ok j C=>
    rw[q]at F;obtain⟨N,K⟩:=dD q;have hj:=xN hF hR.safe q;have B:u.heap.size<=C.heap.size:=by have:=(bY c.P (Z2 l) u).2;rwa[q]at this
    simp only[K];refine⟨aL,fun _ _ hd=>?_⟩;obtain⟨V,E,q1,I,M,O⟩:=F hd;rw[q1 #[]];refine⟨_,_,seen c.Q f (#[]++E)++#[],rfl,.inl ⟨rfl,hfr.Cr _ fun z hz=>?_,hcs,rfl⟩,I,M,cx O,B⟩;rcases List.mem_append.1 hz with hz|hz
    ·cases j with
     |none=>simp at hz
     |some b=>simp at hz;subst hz;exact dM _ (hj b rfl)
    ·exact G z hz
   |halt r C=>
    rw[q]at F;obtain⟨N,K⟩:=dD q;have B:u.heap.size<=C.heap.size:=by have:=(bY c.P (Z2 l) u).2;rwa[q]at this
    simp only[K];cases r with
    |panic v=>refine⟨aL,fun _ _ hd=>?_⟩;obtain⟨V,E,q1,I,M,O⟩:=F hd;rw[q1 #[]];exact⟨_,_,seen c.Q f (#[]++E)++#[],rfl,.inl ⟨rfl,hfr.raise _,hcs,rfl⟩,I,M,cx O,B⟩
    |_=>trivial
  |beginRound=>
   unfold ο;dsimp only;refine oR hF hfr hcs ?_ hR ?_
   ·cases p with
    |none=>exact ae (ai _) fun _=>ag _
    |some l=>exact ae (tq l) fun _=>ag _
   ·exact fun n C e=>(aW (Φ:=eM c L) fun _=>bQ (a:=Next.skip) trivial) u n C e
  |call d w r s=>cases hi
  |extern r a=>cases hi
theorem kX(hF:ge c L sp){g:Ω}(hg:OkG c L sp g)(hR:Rel c.ok c.T.globals.size c.S k u w):c7 c L sp k u w (stepG c.P Ψ g u) (stepG c.Q Ψ g w):=by
 obtain⟨fr,cs,st,dying,d⟩:=g;obtain⟨b,a,e⟩:=hg;dsimp only at b a e;subst e;unfold stepG;dsimp only;cases hm:fr.mode with
 |run=>exact FU hF b a hR
 |returning=>exact ry hF b a hR
 |panicking f=>exact ry hF b a hR
end
end
end gO
namespace gO
open Go Go.Conc
section
def Ends(P:Θ)(Post:Ξ->Array ZW->Prop)(m:Z1):Prop:=∃n v w,runN P n m=.ended (.done v) w/\Post v w.heap
section
variable{P:Θ}{Post:Ξ->Array ZW->Prop}{m m':Z1}
theorem Ends.next(h:Ends P Post m)(hs:step P m=.next m'):Ends P Post m':=by
 obtain⟨n,v,w,a,b⟩:=h;cases n with
 |zero=>simp[runN]at a
 |succ n=>simp only[runN,hs]at a;exact⟨n,v,w,a,b⟩
theorem Ends.run:∀{k:Nat} {m:Z1},Ends P Post m->runN P k m=.next m'->Ends P Post m'
 |0,m,h,hk=>by simp only[runN]at hk;cases hk;exact h
 |k+1,m,h,hk=>by
  simp only[runN]at hk;cases hs:step P m with
  |next m1=>rw[hs]at hk;exact(h.next hs).run hk
  |ended o w=>rw[hs]at hk;cases hk
theorem Ends.inv{I:Z1->Prop}(hI:∀m,I m->(∃o w,step P m=.ended o w/\∀v,o≠.done v)\/∃m',step P m=.next m'/\I m')(h:I m):¬Ends P Post m:=by
 rintro⟨n,v,w,a,e⟩
 induction n generalizing m with
 |zero=>simp[runN]at a
 |succ n d=>
  simp only[runN]at a;rcases hI m h with⟨o,f,hs,c⟩|⟨m',hs,b⟩
  ·rw[hs]at a;cases a
   exact c v rfl
  ·rw[hs]at a;exact d b a
end
def FV(P:Θ):Prop:=∀v t recv name,panicText P χ v=.call t recv name->∀w f args w',(ZS (.fn (.method name) #[]) #[.iface t recv]).run P w≠.ok (.enter f args) w'
def K8(g:Ω):Prop:=(g.status=.running/\∃d,g.dying=φ d/\d.calling=χ)\/g.status=.blocked\/g.status=.waiting\/g.status=.finished
section
variable{P:Θ}{Post:Ξ->Array ZW->Prop}
theorem endWith_ended(w:Γ)(fd:Nat)(t:ByteArray)(o:Outcome)(ho:∀v,o≠.done v):∃o' w' es,endWith w fd t o=.ended o' w' es/\∀v,o'≠.done v:=by
 unfold endWith;dsimp only;split
 ·split
  ·exact⟨_,_,_,rfl,ho⟩
  ·exact⟨_,_,_,rfl,by simp⟩
 ·exact⟨_,_,_,rfl,ho⟩
 ·exact⟨_,_,_,rfl,by simp⟩
theorem D1(hM:FV P)(fr:ξ)(d:Dying)(hd:d.calling=χ)(w:Γ):
 (∃o w' es,die P fr d w=.ended o w' es/\∀v,o≠.done v)\/∃g' w' es,die P fr d w=.go g' w' es/\K8 g':=by
 unfold die;split
 ·
  unfold writeOn;dsimp only;split
  ·exact .inl ⟨_,_,_,rfl,by simp⟩
  ·split
   ·exact .inr ⟨_,_,_,rfl,.inl ⟨rfl,_,rfl,hd⟩⟩
   ·exact .inr ⟨_,_,_,rfl,.inr (.inl rfl)⟩
   ·exact .inl ⟨_,_,_,rfl,by simp⟩
   ·exact .inl ⟨_,_,_,rfl,by simp⟩
 ·split
  ·split
   ·exact .inr ⟨_,_,_,rfl,.inr (.inl rfl)⟩
   ·exact .inl (endWith_ended _ _ _ _ (by simp))
  ·dsimp only;split
   ·exact .inr ⟨_,_,_,rfl,.inl ⟨rfl,_,rfl,hd⟩⟩
   ·split
    ·exact .inr ⟨_,_,_,rfl,.inl ⟨rfl,_,rfl,hd⟩⟩
    ·exact .inl ⟨_,_,_,rfl,by simp⟩
   ·rename_i t a name g;have i:=hM _ _ _ _ g w;cases hx:(ZS (.fn (.method name) #[]) #[.iface t a]).run P w with
    |ok n h=>
     obtain⟨c,e⟩:=dD hx;simp only[e];cases n with
     |enter f b=>exact absurd hx (i f b h)
     |value v=>
      cases v with
      |string s=>exact .inr ⟨_,_,_,rfl,.inl ⟨rfl,_,rfl,hd⟩⟩
      |_=>exact .inl ⟨_,_,_,rfl,by simp⟩
     |_=>exact .inl ⟨_,_,_,rfl,by simp⟩
    |halt r h=>
     obtain⟨c,e⟩:=dD hx;simp only[e];cases r with
     |panic v=>
      dsimp only;unfold endPrinting endThrow dieOf;dsimp only;split
      ·exact .inr ⟨_,_,_,rfl,.inl ⟨rfl,_,rfl,rfl⟩⟩
      ·exact .inl ⟨_,_,_,rfl,by simp⟩
     |_=>exact .inl ⟨_,_,_,rfl,by simp⟩
   ·exact .inl ⟨_,_,_,rfl,by simp⟩
theorem cj{a:Ω}{w w':Γ}{o:Outcome}{es:Array Event}(hs:a.status=.running)(h:stepG P Ψ a w=.ended o w' es):step P (solo a w)=.ended o w':=by rw[step,stepT_solo hs];have:=runT_many_ended (P:=P) (gs:=#[a]) (w:=w) (sl:=ψ) (i:=0) (g:=a) rfl h;rw[show solo a w=crowd #[a] w ψ from rfl,this]
theorem qp{a:Ω}{w:Γ}(hs:a.status=.blocked\/a.status=.waiting\/a.status=.finished):
 (∃o w',step P (solo a w)=.ended o w'/\∀v,o≠.done v)\/step P (solo a w)=.next (solo a w):=by
 have c:∀o:Outcome,(∀v,o≠.done v) ->∀t,∃b w',(match endWith w 2 t o with|.ended o w _=>Move.machine (.ended o w)|_=>.machine (.ended (.stuck "" "") default))=.machine (.ended b w')/\∀v,b≠.done v:=by intro o f t;obtain⟨b,w',g,e,d⟩:=endWith_ended w 2 t o f;rw[e];exact⟨b,w',rfl,d⟩
 rcases hs with hs|hs|hs
 ·left;obtain⟨b,w',e,d⟩:=c (.fatal "all goroutines are asleep - deadlock!") (by simp) (bytes ("fatal error: "++ "all goroutines are asleep - deadlock!"++ "\n"));refine⟨b,w',?_,d⟩;have:move P (solo a w)=.machine (.ended b w'):=by rw[<-e];simp[move,ask,askOn,solo,runnable_eq,due,ahead,Goroutine.canRun,hs,List.range_succ,choose,pure,ZV,Question.forced];rfl
  rw[step,stepT,this]
 ·right;have:move P (solo a w)=.machine (.next (solo a w)):=by simp[move,ask,askOn,solo,runnable_eq,due,ahead,Goroutine.canRun,hs,List.range_succ,choose,pure,ZV,Question.forced]
  rw[step,stepT,this]
 ·left;obtain⟨b,w',e,d⟩:=c (.fatal "no goroutines (main called runtime.Goexit) - deadlock!") (by simp) (bytes ("fatal error: "++ "no goroutines (main called runtime.Goexit) - deadlock!"++ "\n"));refine⟨b,w',?_,d⟩;have:move P (solo a w)=.machine (.ended b w'):=by rw[<-e];simp[move,ask,askOn,solo,runnable_eq,due,ahead,Goroutine.canRun,hs,List.range_succ,choose,pure,ZV,Question.forced];rfl
  rw[step,stepT,this]
theorem AZ(hM:FV P){g:Ω}(hg:K8 g)(w:Γ):¬Ends P Post (solo g w):=by
 refine Ends.inv (I:=fun m=>∃g w,m=solo g w/\K8 g) ?_ ⟨g,w,rfl,hg⟩;rintro m ⟨g,w,rfl,hg⟩;rcases hg with⟨hs,d,hd,hc⟩|hg
 ·obtain⟨fr,cs,st,dying,a⟩:=g;dsimp only at hs hd;subst hd;have b:stepG P Ψ ⟨fr,cs,st,φ d,a⟩ w=die P fr d w:=by obtain⟨a1,l,p,k,q,r,n⟩:=d;dsimp only at hc;subst hc;rfl
  rcases D1 hM fr d hc w with⟨o,c,i,f,e⟩|⟨j,c,i,f,e⟩
  ·exact .inl ⟨o,c,cj hs (b.trans f),e⟩
  ·exact .inr ⟨_,step_solo_go hs (b.trans f),j,c,rfl,e⟩
 ·rcases qp (P:=P) (w:=w) hg with h|h
  ·exact .inl h
  ·exact .inr ⟨_,h,g,w,rfl,.inr hg⟩
end
end
section
abbrev fG:=Nat->Question->Nat
def bL(u0:Γ)(h:Array ZW)(τ:fG)(d:Nat):Γ:={u0 with heap:=h,tape:=τ,drawn:=d}
def Ctx.eH(c:Ctx):Ctx:={c with G:=c.F,S:=fun _=>False}
def pL(c:Ctx)(h:Array ZW):Prop:=∀(b:Nat) (o:ZW),h[b]?=φ o->c.ok o
def akG(c:Ctx)(L:bu)(sp:Δ)(g:Ω):Prop:=∃args kind cs,g={frame:=ω c.P sp args kind,callers:=cs,status:=.running,dying:=ψ}/\((kind=.normal\/kind=.deferred)/\cs≠[])/\∀x∈cs,aJ c L sp x
def Node(c:Ctx)(L:bu)(sp:Δ)(g:Ω)(h:Array ZW):Prop:=pL c h/\g.status=.running/\(OkG c L sp g\/akG c L sp g)
def gW(P:Θ)(u0:Γ)(M:Nat)(δ:Nat)(σ:fG)(g:Ω)(h:Array ZW)(g':Ω)(h':Array ZW):Prop:=∀(τ:fG) (D:Nat),(∀j q,j<δ->τ (D+j) q=σ j q) ->runN P M (solo g (bL u0 h τ D))=.next (solo g' (bL u0 h' τ (D+δ)))
def Move(c:Ctx)(L:bu)(sp:Δ)(u0:Γ)(g:Ω)(h:Array ZW)(g':Ω)(h':Array ZW):Prop:=Node c L sp g' h'/\∃M δ σ,0<M/\gW c.P u0 M δ σ g h g' h'
theorem aJ.eH{c:Ctx}{L:bu}{sp:Δ}{fr:ξ}(h:aJ c L sp fr):aJ c.eH L sp fr:=⟨h.fn,h.todo,h.defers,h.kind⟩
theorem aJ.rz{c:Ctx}{L:bu}{sp:Δ}{fr:ξ}(h:aJ c.eH L sp fr):aJ c L sp fr:=⟨h.fn,h.todo,h.defers,h.kind⟩
theorem OkG.eH{c:Ctx}{L:bu}{sp:Δ}{g:Ω}(h:OkG c L sp g):OkG c.eH L sp g:=⟨h.frame.eH,fun x a=>(h.callers x a).eH,h.dying⟩
theorem OkG.rz{c:Ctx}{L:bu}{sp:Δ}{g:Ω}(h:OkG c.eH L sp g):OkG c L sp g:=⟨h.frame.rz,fun x a=>(h.callers x a).rz,h.dying⟩
section
variable{c:Ctx}{L:bu}{sp:Δ}{u0:Γ}
theorem nI{h:Array ZW}(hs:pL c h)(τ qD:fG)(D D' k:Nat)(ha:∀j q,j<k->qD (D'+j) q=τ (D+j) q):Rel c.eH.ok c.eH.T.globals.size c.eH.S k (bL u0 h τ D) (bL u0 h qD D'):=⟨ha,rfl,fun _ _=>rfl,fun _ hb=>hb.elim,fun _ hb=>hb.elim,rfl,hs⟩
theorem ug{k:Nat}{u w:Γ}(h:Rel c.eH.ok c.eH.T.globals.size c.eH.S k u w):w.heap=u.heap:=by apply Array.ext_getElem?;intro b;exact h.same b (fun hb=>hb)
theorem Cs(hF:ge c.eH L sp){g g':Ω}{h:Array ZW}(hn:Node c L sp g h)(hg:OkG c L sp g){τ:fG}{D:Nat}{u':Γ}{es:Array Event}
 (hs:stepG c.P Ψ g (bL u0 h τ D)=.go g' u' es) (h1:g'.status=.running) (h2:g'.dying=ψ):
 Node c L sp g' u'.heap/\∃δ,u'=bL u0 u'.heap τ (D+δ)/\∀(qD:fG) (D':Nat),(∀j q,j<δ->qD (D'+j) q=τ (D+j) q) ->
  ∃es',stepG c.P Ψ g (bL u0 h qD D')=.go g' (bL u0 u'.heap qD (D'+δ)) es':=by
 have base:∀(k:Nat) (qD:fG) (D':Nat),(∀j q,j<k->qD (D'+j) q=τ (D+j) q) ->u'.drawn<=D+k->∃es',stepG c.P Ψ g (bL u0 h qD D')=.go g' (bL u0 u'.heap qD (D'+(u'.drawn-D))) es'/\D<=u'.drawn/\Node c L sp g' u'.heap:=by
  intro k qD D' r hd;have w:=kX (c:=c.eH) (L:=L) (sp:=sp) hF hg.eH (nI (u0:=u0) hn.1 τ qD D D' k r);rw[show stepG c.eH.P Ψ g (bL u0 h τ D)=.go g' u' es from hs]at w;obtain⟨n,s,es',q1,z,v,i,O,M⟩:=w.2 h1 h2 hd;have d:n=g':=by
   rcases z with⟨e,_⟩|⟨a,t,cs,e1,e2,_⟩
   ·exact e
   ·rw[e1,e2];rfl
  have hw:s=bL u0 u'.heap qD (D'+(u'.drawn-D))/\D<=u'.drawn:=by
   have l:=i.tape;have p:=i.os;have m:=i.output;have y:=i.drawn;have u:=ug v;simp only[bL]at l p m y;have I:D<=u'.drawn:=by
    have K:(bL u0 h τ D).drawn<=u'.drawn:=by have f:=kX (c:=c.eH) (L:=L) (sp:=sp) hF hg.eH (nI (u0:=u0) hn.1 τ (fun j=>τ (D+j)) D 0 (u'.drawn-D+D) (fun j q _=>by rw[Nat.zero_add]));rw[show stepG c.eH.P Ψ g (bL u0 h τ D)=.go g' u' es from hs]at f;obtain⟨_,R,_,_,_,_,A,_,_⟩:=f.2 h1 h2 (by simp only[bL];omega);have:=A.drawn;simp only[bL]at this⊢;omega
    exact K
   refine⟨?_,I⟩;obtain⟨a1,T,E,Q,N⟩:=s;simp only at l p m y u;unfold bL;subst l p m u;have:E=D'+(u'.drawn-D):=by omega
   rw[this]
  refine⟨es',by rw[<-d,<-hw.1];exact q1,hw.2,?_⟩;refine⟨fun b o G=>v.safe b o G,h1,?_⟩;rcases z with⟨e,F⟩|⟨a,t,cs,e1,e2,e3,e4⟩
  ·exact .inl F.rz
  ·exact .inr ⟨a,t,cs,e1,e3,fun x J=>(e4 x J).rz⟩
 obtain⟨H,B,S,C⟩:=base (u'.drawn-D) τ D (fun _ _ _=>rfl) (by omega);refine⟨C,u'.drawn-D,?_,fun qD D' r=>?_⟩
 ·have:=B.symm.trans hs;injection this with _ e _
  exact e.symm
 ·obtain⟨es',e1,_,_⟩:=base (u'.drawn-D) qD D' r (by omega);exact⟨es',e1⟩
theorem D3(hF:ge c.eH L sp){g:Ω}{h:Array ZW}(hn:Node c L sp g h)(hg:OkG c L sp g){τ:fG}{D:Nat}{v:Ξ}{u':Γ}{es:Array Event}
 (hs:stepG c.P Ψ g (bL u0 h τ D)=.ended (.done v) u' es) (qD:fG) (D':Nat) (ha:∀j q,qD (D'+j) q=τ (D+j) q):∃w' es',stepG c.P Ψ g (bL u0 h qD D')=.ended (.done v) w' es'/\w'.heap=u'.heap:=by
 have a:=kX (c:=c.eH) (L:=L) (sp:=sp) hF hg.eH (nI (u0:=u0) hn.1 τ qD D D' u'.drawn (fun j q _=>ha j q));rw[show stepG c.eH.P Ψ g (bL u0 h τ D)=.ended (.done v) u' es from hs]at a;obtain⟨w',es',q1,b,_⟩:=a (by simp only[bL];omega);exact⟨w',es',q1,ug b⟩
def jo(c:Ctx)(Post:Ξ->Array ZW->Prop)(g:Ω)(w:Γ):Prop:=(∃v u' es,stepG c.P Ψ g w=.ended (.done v) u' es/\Post v u'.heap)\/∃g' u' es,stepG c.P Ψ g w=.go g' u' es/\g'.status=.running/\g'.dying=ψ
def Live(c:Ctx)(u0:Γ)(Post:Ξ->Array ZW->Prop)(g:Ω)(h:Array ZW):Prop:=∀τ:fG,∃(T:fG) (D:Nat),(∀j q,T (D+j) q=τ j q)/\Ends c.P Post (solo g (bL u0 h T D))
inductive FW(c:Ctx)(L:bu)(sp:Δ)(u0:Γ)(Post:Ξ->Array ZW->Prop):Ω->Array ZW->Prop
 |mk (g:Ω) (h:Array ZW) (safe:OkG c L sp g->∀τ D,jo c Post g (bL u0 h τ D)) (live:Live c u0 Post g h) (next:∀g' h',Move c L sp u0 g h g' h'->FW c L sp u0 Post g' h'):FW c L sp u0 Post g h
theorem runN_add{P:Θ}:∀(a b:Nat) {m m1:Z1},runN P a m=.next m1->runN P (a+b) m=runN P b m1
 |0,b,m,m1,h=>by simp only[runN]at h;cases h;rw[Nat.zero_add]
 |a+1,b,m,m1,h=>by
  simp only[runN]at h;cases hs:step P m with
  |next m2=>rw[hs]at h;rw[show a+1+b=(a+b)+1 by omega];simp only[runN,hs];exact runN_add a b h
  |ended o w=>rw[hs]at h;cases h
theorem gW.refl(P:Θ)(u0:Γ)(g:Ω)(h:Array ZW)(σ:fG):gW P u0 0 0 σ g h g h:=fun a D _=>rfl
theorem gW.trans{P:Θ}{M M' δ δ':Nat}{σ σ':fG}{g g1 g2:Ω}{h h1 h2:Array ZW}(a:gW P u0 M δ σ g h g1 h1)(b:gW P u0 M' δ' σ' g1 h1 g2 h2):
 gW P u0 (M+M') (δ+δ') (fun j q=>if j<δ then σ j q else σ' (j-δ) q) g h g2 h2:=by
 intro d D e;rw[runN_add M M' (a d D fun j q c=>(e j q (by omega)).trans (if_pos c))];have:=b d (D+δ) fun j q c=>by rw[show D+δ+j=D+(δ+j) by omega,e (δ+j) q (by omega)];dsimp only;rw[if_neg (by omega),show δ+j-δ=j by omega]
 rw[this,show D+δ+δ'=D+(δ+δ') by omega]
inductive Reach(c:Ctx)(L:bu)(sp:Δ)(u0:Γ):Ω->Array ZW->Ω->Array ZW->Prop
 |refl (g h):Reach c L sp u0 g h g h
 |step {g h g1 h1 g2 h2}:Reach c L sp u0 g h g1 h1->Move c L sp u0 g1 h1 g2 h2->Reach c L sp u0 g h g2 h2
theorem Reach.walks{g g':Ω}{h h':Array ZW}(r:Reach c L sp u0 g h g' h'):∃M δ σ,gW c.P u0 M δ σ g h g' h':=by
 induction r with
 |refl=>exact⟨0,0,fun _ _=>0,.refl _ _ _ _ _⟩
 |step r m b=>obtain⟨M,δ,σ,w⟩:=b;obtain⟨_,f,e,d,_,a⟩:=m;exact⟨_,_,_,w.trans a⟩
theorem Reach.node{g g':Ω}{h h':Array ZW}(hn:Node c L sp g h)(r:Reach c L sp u0 g h g' h'):Node c L sp g' h':=by
 cases r with
 |refl=>exact hn
 |step r m=>exact m.1
theorem tv(hF:ge c.eH L sp)(hM:FV c.P){Post:Ξ->Array ZW->Prop}{g:Ω}{h:Array ZW}(hn:Node c L sp g h)(hg:OkG c L sp g){τ:fG}{D:Nat}(hw:¬jo c Post g (bL u0 h τ D)):
 ¬Ends c.P Post (solo g (bL u0 h τ D)):=by
 have a:=kX (c:=c.eH) (L:=L) (sp:=sp) hF hg.eH (nI (u0:=u0) hn.1 τ τ D D 0 (fun _ _ _=>rfl));cases hs:stepG c.P Ψ g (bL u0 h τ D)with
 |go i f b=>
  rw[show stepG c.eH.P Ψ g (bL u0 h τ D)=.go i f b from hs]at a;have p:K8 i:=by
   cases hd:i.dying with
   |some d=>
    rcases a.1.2 with e|e|e|e
    ·exact .inl ⟨e,d,hd,a.1.1 d hd⟩
    ·exact .inr (.inl e)
    ·exact .inr (.inr (.inl e))
    ·exact .inr (.inr (.inr e))
   |none=>
    rcases a.1.2 with e|e|e|e
    ·exact absurd (.inr ⟨i,f,b,hs,e,hd⟩) hw
    ·exact .inr (.inl e)
    ·exact .inr (.inr (.inl e))
    ·exact .inr (.inr (.inr e))
  intro m;exact AZ hM p f (m.next (step_solo_go hn.2.1 hs))
 |ended o f b=>
  rintro⟨n,v,w,k,l⟩;have j:=cj (P:=c.P) hn.2.1 hs;cases n with
  |zero=>simp[runN]at k
  |succ n=>
   simp only[runN,j]at k;injection k with e1 e2
   subst e1 e2;exact hw (.inl ⟨v,_,b,hs,l⟩)
 |_=>rw[show stepG c.eH.P Ψ g (bL u0 h τ D)=_ from hs]at a;exact a.elim
theorem K9{P:Θ}{Post:Ξ->Array ZW->Prop}{m m':Z1}{n k:Nat}{o:Outcome}{w:Γ}(h:runN P n m=.ended o w)(hk:runN P k m=.next m'):k<n:=by
 by_cases a:k<n
 ·exact a
 ·exfalso;obtain⟨j,rfl⟩:=Nat.exists_eq_add_of_le (Nat.le_of_not_lt a);have:∀(n j:Nat) (m:Z1),runN P n m=.ended o w->runN P (n+j) m=.ended o w:=by
   intro n
   induction n with
   |zero=>intro j m h;simp[runN]at h
   |succ n b=>
    intro j m h;rw[show n+1+j=(n+j)+1 by omega];simp only[runN]at h⊢;cases hs:step P m with
    |next m1=>rw[hs]at h;exact b j m1 h
    |ended d c=>rw[hs]at h;exact h
  rw[this n j m h]at hk;cases hk
theorem A0(hF:ge c.eH L sp){Post:Ξ->Array ZW->Prop}{g:Ω}{h:Array ZW}(hn:Node c L sp g h)(hg:OkG c L sp g){τ qD:fG}{D D':Nat}(ha:∀j q,qD (D'+j) q=τ (D+j) q)
 (hw:jo c Post g (bL u0 h τ D)):jo c Post g (bL u0 h qD D'):=by
 rcases hw with⟨v,m,l,d,b⟩|⟨n,m,l,d,b,f⟩
 ·obtain⟨i,a,e1,e2⟩:=D3 hF hn hg d qD D' ha;exact .inl ⟨v,i,a,e1,by rw[e2];exact b⟩
 ·obtain⟨_,o,_,k⟩:=Cs hF hn hg d b f;obtain⟨a,e⟩:=k qD D' fun j q _=>ha j q
  exact .inr ⟨n,_,a,e,b,f⟩
theorem xO(hF:ge c.eH L sp)(hM:FV c.P){Post:Ξ->Array ZW->Prop}{g:Ω}{h:Array ZW}(hn:Node c L sp g h)(he:∀τ,Ends c.P Post (solo g (bL u0 h τ 0))):FW c L sp u0 Post g h:=by
 classical
 by_cases I:FW c L sp u0 Post g h
 ·exact I
 exfalso;have safe:∀t u,Reach c L sp u0 g h t u->OkG c L sp t->∀τ D,jo c Post t (bL u0 u τ D):=by
  intro t u r A τ D;by_cases hw:jo c Post t (bL u0 u τ D)
  ·exact hw
  exfalso;obtain⟨M,a,E,w⟩:=r.walks
  let T:fG:=fun j q=>if j<a then E j q else τ (D+(j-a)) q
  have b:=w T 0 fun j q K=>by rw[Nat.zero_add];exact if_pos K
  rw[Nat.zero_add]at b;have G:=(he T).run b;refine tv hF hM (r.node hn) A (fun C=>hw (A0 hF (r.node hn) A (fun j q=>?_) C)) G;show τ (D+j) q=T (a+j) q;simp only[T];rw[if_neg (by omega),show a+j-a=j by omega]
 have H:∀t u,Reach c L sp u0 g h t u->Live c u0 Post t u:=by
  intro t u r τ;obtain⟨M,a,E,w⟩:=r.walks
  let T:fG:=fun j q=>if j<a then E j q else τ (j-a) q
  have b:=w T 0 fun j q K=>by rw[Nat.zero_add];exact if_pos K
  rw[Nat.zero_add]at b;refine⟨T,a,fun j q=>?_,(he T).run b⟩;show(if a+j<a then E (a+j) q else τ (a+j-a) q)=_;rw[if_neg (by omega),show a+j-a=j by omega]
 have R:∀x:{x:Ω×Array ZW//Reach c L sp u0 g h x.1 x.2/\¬FW c L sp u0 Post x.1 x.2},∃y:{x:Ω×Array ZW//Reach c L sp u0 g h x.1 x.2/\¬FW c L sp u0 Post x.1 x.2},Move c L sp u0 x.1.1 x.1.2 y.1.1 y.1.2:=by
  rintro⟨⟨t,u⟩,r,hw⟩;by_cases z:∃o l,Move c L sp u0 t u o l/\¬FW c L sp u0 Post o l
  ·obtain⟨o,l,m,C⟩:=z;exact⟨⟨(o,l),.step r m,C⟩,m⟩
  ·refine absurd (.mk t u (fun A=>safe t u r A) (H t u r) fun o l m=>?_) hw;by_cases B:FW c L sp u0 Post o l
   ·exact B
   ·exact absurd ⟨o,l,m,B⟩ z
 obtain⟨f,Z⟩:=Classical.axiomOfChoice R
 let sq:Nat->{x:Ω×Array ZW//Reach c L sp u0 g h x.1 x.2/\¬FW c L sp u0 Post x.1 x.2}:=fun i=>Nat.rec ⟨(g,h),.refl g h,I⟩ (fun _ s=>f s) i
 have hm:∀i,∃p:Nat×Nat×fG,0<p.1/\gW c.P u0 p.1 p.2.1 p.2.2 (sq i).1.1 (sq i).1.2 (sq (i+1)).1.1 (sq (i+1)).1.2:=fun i=>by obtain⟨_,M,a,E,Y,Q⟩:=Z (sq i);exact⟨(M,a,E),Y,Q⟩
 obtain⟨p,V⟩:=Classical.axiomOfChoice hm
 let D:Nat->Nat:=fun i=>Nat.rec 0 (fun i d=>d+(p i).2.1) i
 have J:∀i,D (i+1)=D i+(p i).2.1:=fun i=>rfl
 have mono:∀i k,D i<=D (i+k):=by
  intro i k
  induction k with
  |zero=>exact Nat.le_refl _
  |succ k W=>rw[<-Nat.add_assoc,J];omega
 let T:fG:=fun n q=>if z:∃i,D i<=n/\n<D (i+1)then(p (Classical.choose z)).2.2 (n-D (Classical.choose z)) q else 0
 have Ct:∀i j q,j<(p i).2.1->T (D i+j) q=(p i).2.2 j q:=by
  intro i j q K;have z:∃k,D k<=D i+j/\D i+j<D (k+1):=⟨i,by omega,by rw[J];omega⟩;have X:=Classical.choose_spec z;have e:Classical.choose z=i:=by
   generalize Classical.choose z=k at X;rcases Nat.lt_trichotomy k i with O|rfl|O
   ·have:=mono (k+1) (i-(k+1));rw[show k+1+(i-(k+1))=i by omega]at this;omega
   ·rfl
   ·have:=mono (i+1) (k-(i+1));rw[show i+1+(k-(i+1))=k by omega,J]at this;omega
  show(if z:∃k,D k<=D i+j/\D i+j<D (k+1)then(p (Classical.choose z)).2.2 (D i+j-D (Classical.choose z)) q else 0)=_;rw[dif_pos z,e,show D i+j-D i=j by omega]
 have F:∀i,∃N,i<=N/\runN c.P N (solo g (bL u0 h T 0))=.next (solo (sq i).1.1 (bL u0 (sq i).1.2 T (D i))):=by
  intro i
  induction i with
  |zero=>exact⟨0,Nat.le_refl _,rfl⟩
  |succ i W=>obtain⟨N,hN,U⟩:=W;have Q:=(V i).2 T (D i) (Ct i);refine⟨N+(p i).1,by have:=(V i).1;omega,?_⟩;rw[runN_add N (p i).1 U,Q,J]
 obtain⟨n,v,w,S,_⟩:=he T;obtain⟨N,hN,U⟩:=F n;have:=K9 (Post:=Post) S U;omega
end
end
end gO
namespace gO
open Go Go.Conc Go.ConcM
open Go.ConcN (sumTo upd sumTo_upd upd_ne upd_same)
section
def Ctx.with(c:Ctx)(S:Nat->Prop):Ctx:={c with S:=S}
def mT(S:Nat->Prop):Loc->Prop
 |.cell a=>S a.block
 |.obj r=>S r
 |_=>False
def HR(c:Ctx)(u0:Γ)(S:Nat->Prop)(h:Array ZW)(w:Γ):Prop:=∀k,Rel c.ok c.T.globals.size S k (bL u0 h w.tape w.drawn) w
theorem HR.at{c:Ctx}{u0:Γ}{S:Nat->Prop}{h:Array ZW}{w:Γ}(hr:HR c u0 S h w)(d:Nat):HR c u0 S h (w.at d):=fun k=>⟨fun j q _=>rfl,(hr k).size,(hr k).same,(hr k).mask,(hr k).high,(hr k).env,(hr k).safe⟩
theorem HR.of{c:Ctx}{u0:Γ}{S:Nat->Prop}{k:Nat}{u' w':Γ}(hr:Rel c.ok c.T.globals.size S k u' w')(he:w'.os.env=u0.os.env):HR c u0 S u'.heap w':=fun k=>⟨fun j q _=>rfl,hr.size,hr.same,hr.mask,hr.high,he,hr.safe⟩
theorem FX{S:Nat->Prop}{B:Nat}{e:Event}(h:jG S B e):EvL (mT S) B e:=by
 obtain⟨loc,wr,c⟩:=e;cases loc with
 |cell a=>refine⟨fun x b hs=>?_,by simp,by simp,h.2⟩;simp only[θ,ζ,Z8]at b;subst b;exact absurd hs h.1
 |obj r=>
  cases wr<;>cases c<;>first
   |(refine⟨fun x b hs=>?_,by simp,by simp,h.2⟩
     simp only[θ,ζ,Z8]at b;subst b;exact absurd hs h.1)
   |exact⟨fun x b=>by simp[θ,ζ]at b,by simp,by simp,h.2⟩
 |output=>refine⟨fun x b hs=>?_,by simp,by simp,trivial⟩;simp only[θ,ζ,Z8]at b;subst b;exact hs.elim
 |goroutines=>exact absurd h (by simp[jG])
 |mark m=>
  cases m with
  |noRoom=>exact⟨fun x b=>by simp[θ,ζ]at b,by simp,by simp,trivial⟩
  |extern f=>exact⟨fun x b=>by simp[θ,ζ]at b,by simp,by simp,trivial⟩
  |_=>exact absurd h (by simp[jG])
def dj(P:Θ)(PostR:Ξ->Γ->Prop)(m:Z1)(t:Trace):Prop:=∃N last o w' t',runNT P (N+1) m t=(.ended o w',t')/\runN P N m=.next last/\step P last=.ended o w'/\Conc.Good P PostR last o w' t'
section
variable{P:Θ}{PostR:Ξ->Γ->Prop}
theorem dj.end{m:Z1}{t:Trace}{o:Outcome}{w:Γ}{ops:Array MemOp}(h:stepT P m=(.ended o w,ops))(hg:Conc.Good P PostR m o w (t++ops)):dj P PostR m t:=⟨0,m,o,w,t++ops,by simp[runNT,h],rfl,by simp[step,h],hg⟩
theorem dj.step{m m':Z1}{t:Trace}{ops:Array MemOp}(h:stepT P m=(.next m',ops))(hg:dj P PostR m' (t++ops)):dj P PostR m t:=by
 obtain⟨N,a,o,b,e,f,c,g,d⟩:=hg;refine⟨N+1,a,o,b,e,?_,?_,g,d⟩
 ·rw[runNT];simp only[h];exact f
 ·simp only[runN,Go.step,h];exact c
theorem dj.steps:∀{N:Nat} {m m':Z1} {t t':Trace},runNT P N m t=(.next m',t') ->dj P PostR m' t'->dj P PostR m t
 |0,m,m',t,t',h,hg=>by
  simp only[runNT]at h;cases h
  exact hg
 |N+1,m,m',t,t',h,hg=>by
  simp only[runNT]at h;cases hs:stepT P m with
  |mk s ops=>
   rw[hs]at h;cases s with
   |next m1=>exact dj.step hs (dj.steps h hg)
   |ended o w=>cases h
end
structure R8(S S':Nat->Prop)(w w':Γ):Prop where
 grow:∀b,S b->S' b
 only:∀b,S' b->S b\/w.heap.size<=b
 size:w.heap.size<=w'.heap.size
 tape:w'.tape=w.tape
 output:w'.output=w.output
 still:∀b,b<w.heap.size->S b->w'.heap[b]?=w.heap[b]?
structure Kept(ok:ZW->Prop)(u0:Γ)(S:Nat->Prop)(w:Γ):Prop where
 tape:w.tape=u0.tape
 output:w.output=u0.output
 size:u0.heap.size<=w.heap.size
 R9:∀b o,u0.heap[b]?=φ o->¬ok o->S b/\w.heap[b]?=φ o
 fair:∀b o,u0.heap[b]?=φ o->ok o->¬S b
theorem Kept.go{ok:ZW->Prop}{u0 w w':Γ}{S S':Nat->Prop}(h:Kept ok u0 S w)(hs:R8 S S' w w'):Kept ok u0 S' w':=
 ⟨hs.tape.trans h.tape,hs.output.trans h.output,Nat.le_trans h.size hs.size,fun b o hb f=>by
   obtain⟨a,c⟩:=h.R9 b o hb f;exact⟨hs.grow b a,by rw[hs.still b (Array.getElem?_eq_some_iff.1 c).1 a,c]⟩,fun b o hb d e=>by
   rcases hs.only b e with a|a
   ·exact h.fair b o hb d a
   ·have:=(Array.getElem?_eq_some_iff.1 hb).1;have:=h.size;omega⟩
theorem kE.same{S:Nat->Prop}{u u' w w':Γ}{d:Nat}(h:kE S u u' (w.at d) w')(hs:w.heap.size<=w'.heap.size):R8 S S w w':=⟨fun _ h=>h,fun _ h=>.inl h,hs,h.tape,h.output,h.still⟩
def qE(c:Ctx)(L:bu)(sp:Δ)(u0:Γ)(Post:Ξ->Array ZW->Prop):Prop:=
 ∀(args:Array Ξ) (kd:ZG) (cs:List ξ) (h:Array ZW) (gs:Array Ω) (w:Γ) (sl:Option (Nat×Nat)) (t:Trace) (q:Nat->Nat) (S:Nat->Prop),
  ((kd=.normal\/kd=.deferred)/\cs≠[]) ->(∀x∈cs,aJ c L sp x) ->pL c h->
  Live c u0 Post {frame:=ω c.P sp args kd,callers:=cs,status:=.running,dying:=ψ} h->
  gs[0]?=φ {frame:=ω c.Q sp args kd,callers:=cs,status:=.running,dying:=ψ} ->Leavers c.Q t gs q->Past (mT S) w.heap.size t->HR c u0 S h w->OsLater u0.os w.os->
  ∃g' h' N gs' w' sl' t' q' S',Move c L sp u0 {frame:=ω c.P sp args kd,callers:=cs,status:=.running,dying:=ψ} h g' h'/\OkG c L sp g'/\
   runNT c.Q N (crowd gs w sl) t=(.next (crowd gs' w' sl'),t')/\gs'[0]?=φ g'/\Leavers c.Q t' gs' q'/\Past (mT S') w'.heap.size t'/\HR c u0 S' h' w'/\OsLater u0.os w'.os/\R8 S S' w w'
def FY(c:Ctx)(L:bu)(sp:Δ)(g gR:Ω):Prop:=
 (gR=g/\OkG c L sp g)\/∃args kind cs,g={frame:=ω c.P sp args kind,callers:=cs,status:=.running,dying:=ψ}/\gR={frame:=ω c.Q sp args kind,callers:=cs,status:=.running,dying:=ψ}/\
   ((kind=.normal\/kind=.deferred)/\cs≠[])/\∀x∈cs,aJ c L sp x
theorem aJ.with{c:Ctx}{L:bu}{sp:Δ}{fr:ξ}(h:aJ c L sp fr)(S:Nat->Prop):aJ (c.with S) L sp fr:=⟨h.fn,h.todo,h.defers,h.kind⟩
theorem aJ.oT{c:Ctx}{L:bu}{sp:Δ}{fr:ξ}{S:Nat->Prop}(h:aJ (c.with S) L sp fr):aJ c L sp fr:=⟨h.fn,h.todo,h.defers,h.kind⟩
theorem OkG.with{c:Ctx}{L:bu}{sp:Δ}{g:Ω}(h:OkG c L sp g)(S:Nat->Prop):OkG (c.with S) L sp g:=⟨h.frame.with S,fun x a=>(h.callers x a).with S,h.dying⟩
theorem OkG.oT{c:Ctx}{L:bu}{sp:Δ}{g:Ω}{S:Nat->Prop}(h:OkG (c.with S) L sp g):OkG c L sp g:=⟨h.frame.oT,fun x a=>(h.callers x a).oT,h.dying⟩
theorem After.real{c:Ctx}{L:bu}{sp:Δ}{S:Nat->Prop}{g' g'':Ω}(h:After (c.with S) L sp g' g''):FY c L sp g' g'':=by
 rcases h with⟨e,h⟩|⟨a,b,cs,e1,e2,e3,e4⟩
 ·exact .inl ⟨e,h.oT⟩
 ·exact .inr ⟨a,b,cs,e1,e2,e3,fun x d=>(e4 x d).oT⟩
section
variable{c:Ctx}{L:bu}{sp:Δ}{u0:Γ}{Post:Ξ->Array ZW->Prop}{PostR:Ξ->Γ->Prop}
theorem FZ(hF:∀S,ge (c.with S) L sp)(hFt:ge c.eH L sp)(hPh:qE c L sp u0 Post)
 (hfin:∀v h w S,Post v h->HR c u0 S h w->OsLater u0.os w.os->Kept c.ok u0 S w->PostR v w):
 ∀{g:Ω} {h:Array ZW},FW c L sp u0 Post g h->pL c h->g.status=.running->∀(gR:Ω),FY c L sp g gR->
  ∀(M:Nat) (gs:Array Ω) (w:Γ) (sl:Option (Nat×Nat)) (t:Trace) (q:Nat->Nat) (S:Nat->Prop),sumTo gs.size q<=M->gs[0]?=φ gR->Leavers c.Q t gs q->Past (mT S) w.heap.size t->
   HR c u0 S h w->OsLater u0.os w.os->Kept c.ok u0 S w->dj c.Q PostR (crowd gs w sl) t:=by
 intro g h hW
 induction hW with
 |mk g h safe live next ih=>
  intro B z gR hgR M
  induction M using Nat.strongRecOn with
  |_ M ihM=>
  intro gs w sl t q S hM h0 H hP hR F U;rcases hgR with⟨rfl,hg⟩|⟨args,kd,cs,rfl,rfl,hk,hcs⟩
  ·have Y:Node c L sp gR h:=⟨B,z,.inl hg⟩;have haw:∀g∈gs,awake g:=by
    intro g hg;obtain⟨i,hi,rfl⟩:=Array.mem_iff_getElem.1 hg;rcases Nat.eq_zero_or_pos i with rfl|A
    ·have:gs[0]=gR:=by simpa[Array.getElem?_eq_getElem hi]using h0
     rw[this];exact awake_of (.inl z)
    ·exact awake_of ((H.old i _ A (Array.getElem?_eq_getElem hi)).status.elim .inl fun x=>.inr (.inr x))
   obtain⟨i,g,d,o,hi,R,n⟩:=crowd_pick (P:=c.Q) (w:=w) (sl:=sl) haw ⟨0,gR,h0,z⟩;rcases Nat.eq_zero_or_pos i with rfl|A
   ·obtain rfl:g=gR:=by rw[h0]at hi;exact(ZI hi).symm
    have C:0<gs.size:=(Array.getElem?_eq_some_iff.1 h0).1;have T:=fun K=>kX (c:=c.with S) (L:=L) (sp:=sp) (hF S) (hg.with S) ((HR.at hR d) K)
    rcases safe hg w.tape d with⟨v,r,es,h1,h2⟩|⟨s,r,es,h1,h2,h3⟩
    ·
     have hs:=T r.drawn;rw[show stepG (c.with S).P Ψ g (bL u0 h (w.at d).tape (w.at d).drawn)=.ended (.done v) r es from h1]at hs;obtain⟨I,E,q1,q2,q3,q4,q5⟩:=hs (by omega);have a:=runT_many_ended (P:=c.Q) (sl:=o) (i:=0) hi (show stepG c.Q (0==0) g (w.at d)=_ from q1);have m:w.heap.size<=r.heap.size:=by have e:w.heap.size=h.size:=(hR 0).size;have e2:(bL u0 h (w.at d).tape (w.at d).drawn).heap.size<=r.heap.size:=q5;rw[e];exact e2
     have O:=(hP.mono m).own (fn:=g.frame.fn) (pos:=g.frame.place) (es:=E) fun e he=>FX (q4 e he)
     have b:I.os=w.os:=q3.os;refine dj.end (n.trans a) ⟨v,rfl,hfin v r.heap I S h2 (HR.of q2 (by rw[b];exact(hR 0).env)) (by rw[b];exact F) (U.go (q3.same (by rw[q2.size];exact m))),O.clean,O.over,⟨fun x u=>?_,rfl⟩,fun j x u p=>?_⟩
     ·obtain⟨j,p⟩:=List.mem_iff_getElem?.1 u;rw[List.getElem?_drop]at p;exact⟨_,(H.old (1+j) x (by omega) (by simpa[crowd]using p)).leaves⟩
     ·have J:=H.old j x (by omega) u;refine⟨q j,?_⟩;have e:(t++MemOp.ofEvents 0 g.frame.fn g.frame.place E).deaf j (t++MemOp.ofEvents 0 g.frame.fn g.frame.place E).size=Deaf t j:=ZP t (g:=j) (g':=0) (by omega) _ (fun op l=>by obtain⟨e,_,rfl⟩:=μ l;rfl)
      rw[e];exact J.hears _
    ·
     have hs:=T r.drawn;rw[show stepG (c.with S).P Ψ g (bL u0 h (w.at d).tape (w.at d).drawn)=.go s r es from h1]at hs;obtain⟨W,I,E,q1,q2,q3,q4,q5,q6⟩:=hs.2 h2 h3 (by omega);obtain⟨X,δ,hu',Z⟩:=Cs hFt Y hg h1 h2 h3;have f:Move c L sp u0 g h s r.heap:=by refine⟨X,1,δ,fun j q=>w.tape (d+j) q,Nat.one_pos,fun τ D ha=>?_⟩;obtain⟨es2,e2⟩:=Z τ D ha;simp only[runN];rw[step_solo_go z e2]
     have a:=runT_crowd_go (P:=c.Q) (sl:=o) (i:=0) hi (show stepG c.Q (0==0) g (w.at d)=_ from q1);have m:w.heap.size<=r.heap.size:=by have e:w.heap.size=h.size:=(hR 0).size;have e2:(bL u0 h (w.at d).tape (w.at d).drawn).heap.size<=r.heap.size:=q6;rw[e];exact e2
     have hsw:I.heap.size=r.heap.size:=q3.size;have b:I.os=w.os:=q4.os;refine dj.step (n.trans a) (ih s r.heap f X.1 X.2.1 W q2.real (sumTo ((gs.map (woken c.Q g W I)).setIfInBounds 0 W).size q) _ I o _ q S (Nat.le_refl _) (by simp[C]) ⟨fun j x p u=>?_,fun j p=>?_⟩ ?_ (HR.of q3 (by rw[b];exact(hR 0).env)) (by rw[b];exact F) (U.go (q4.same (by rw[hsw];exact m))))
     ·have V:0≠j:=by omega
      rw[Array.getElem?_setIfInBounds_ne V,Array.getElem?_map]at u;obtain⟨y,hy,rfl⟩:=ι.1 u;have J:=H.old j y p hy;rw[woken_quitsD J,ZP t (by omega) _ (fun op l=>by obtain⟨e,_,rfl⟩:=μ l;rfl)];exact J
     ·rw[ZP t (g':=0) (by simp at p;omega) _ (fun op l=>by obtain⟨e,_,rfl⟩:=μ l;rfl)];exact H.above j (by simpa using p)
     ·rw[hsw];exact(hP.mono m).own fun e he=>FX (q5 e he)
   ·
    have J:=H.old i g A hi;have hi0:(i==0)=χ:=by simp;omega
    have C:i<gs.size:=(Array.getElem?_eq_some_iff.1 hi).1;cases hqi:q i with
    |zero=>rw[hqi]at J;rw[J.1]at R;cases R
    |succ k=>
     rw[hqi]at J;rcases J with⟨hf,_⟩|⟨_,s,es,hm,hstp,hq'⟩
     ·rw[hf]at R;cases R
     have a:=runT_crowd_go (P:=c.Q) (sl:=o) (i:=i) hi (by rw[hi0];exact hstp (w.at d));have m:((gs.map (woken c.Q g s (w.at d))).setIfInBounds i s).size=gs.size:=by simp
     have hsum:sumTo gs.size (upd q i k)+(k+1)=sumTo gs.size q+k:=by have:=sumTo_upd q k id C;simpa[hqi]using this
     refine dj.step (n.trans a) (ihM (sumTo gs.size (upd q i k)) (by omega) _ (w.at d) o _ (upd q i k) S (by rw[m];exact Nat.le_refl _) ?_ ⟨fun j x p u=>?_,fun j p=>?_⟩ (hP.mute (by omega) hm) (hR.at d) F ⟨U.tape,U.output,U.size,U.R9,U.fair⟩)
     ·have V:i≠0:=by omega
      rw[Array.getElem?_setIfInBounds_ne V,Array.getElem?_map,h0];simp[woken_run z]
     ·by_cases G:i=j
      ·subst G;rw[Array.getElem?_setIfInBounds_self_of_lt (by simpa using C)]at u;obtain rfl:=ZI u;rw[upd_same,Deaf_own];exact hq'
      ·rw[Array.getElem?_setIfInBounds_ne G,Array.getElem?_map]at u;obtain⟨y,hy,rfl⟩:=ι.1 u;have hqj:=H.old j y p hy;rw[woken_quitsD hqj,upd_ne q k (Ne.symm G),ZP t G _ (fun op l=>by obtain⟨e,_,rfl⟩:=μ l;rfl)];exact hqj
     ·rw[ZP t (g':=i) (by simp at p;omega) _ (fun op l=>by obtain⟨e,_,rfl⟩:=μ l;rfl)];exact H.above j (by simpa using p)
  ·
   obtain⟨s,h',N,gs',I,o,t',q',S',f,hg',hrun,h0',hL',O,hR',b,hsm⟩:=hPh args kd cs h gs w sl t q S hk hcs B live h0 H hP hR F;exact dj.steps hrun (ih s h' f f.1.1 f.1.2.1 s (.inl ⟨rfl,hg'⟩) _ gs' I o t' q' S' (Nat.le_refl _) h0' hL' O hR' b (U.go hsm))
end
end
end gO
namespace Ph
open Go Go.Conc
section
def xP(es:Array Event):Prop:=∀e∈es,∃f,e.loc=.mark (ZU f)
theorem jM(P:Θ)(fn:Δ){es:Array Event}(h:xP es):seen P fn es=#[]:=by
 unfold seen;dsimp only;obtain⟨l⟩:=es;have:∀(l:List Event) (q:Bool),(∀e∈l,∃f,e.loc=.mark (ZU f)) ->∃b,List.foldl (fun(x:Bool×Array Event) (e:Event)=>match e.loc with
  |.mark (ZU f)=>((P.funcs[f]?).any (·.norace),x.2)
  |_=>(x.1,if x.1&&!e.sync then x.2 else x.2.push e)) (q,#[]) l=(b,#[]):=by
  intro l
  induction l with
  |nil=>exact fun q _=>⟨q,rfl⟩
  |cons e l g=>intro q h;obtain⟨f,c⟩:=h e List.mem_cons_self;rw[List.foldl_cons];simp only[c];exact g _ fun e a=>h e (List.mem_cons_of_mem _ a)
 obtain⟨b,d⟩:=this l ((P.funcs[fn]?).any (·.norace)) (fun e a=>h e (by simpa using a));simp only[<-Array.foldl_toList];exact congrArg Prod.snd d
def dE{α:Type}(P:Θ):Nat->ZD α->Option α
 |0,_=>ψ
 |n+1,.pure a=>φ a
 |n+1,.program k=>dE P n (k P)
 |n+1,.mark (ZU f) k=>dE P n k
 |_,_=>ψ
theorem fu{α:Type}{P:Θ}:∀{n:Nat} {s:ZD α} {a:α},dE P n s=φ a->∃es1,xP es1/\∀w es,s.runT P w es=(.ok a w,es++es1)
 |0,_,_,h=>by cases h
 |n+1,s,a,h=>by
  cases s with
  |pure b=>simp only[dE,Z8]at h;subst h;exact⟨#[],fun e he=>by simp at he,fun w es=>by simp[Sem.runT]⟩
  |program k=>simp only[dE]at h;obtain⟨es1,h1,h2⟩:=fu h;exact⟨es1,h1,fun w es=>by simp only[Sem.runT];exact h2 w es⟩
  |mark m k=>
   cases m<;>first|(simp[dE]at h;done)|skip
   rename_i f;simp only[dE]at h;obtain⟨es1,h1,h2⟩:=fu h;refine⟨#[⟨.mark (ZU f),χ,Ψ⟩]++es1,fun e he=>?_,fun w es=>?_⟩
   ·rcases Array.mem_append.1 he with he|he
    ·rw[Array.mem_singleton.1 he];exact⟨f,rfl⟩
    ·exact h1 e he
   ·simp only[Sem.runT];rw[h2];simp
  |_=>simp[dE]at h
def F1:Next->Bool
 |.value _|.skip|.enter _ _|.defer _=>Ψ
 |_=>χ
def gX:Nat:=60
def rA(P:Θ)(fr:ξ)(callers:List ξ):Bool:=
 match fr.mode with
 |.run=>match fr.todo with
  |[]|.code .ret::_|.code .skip::_|.code (.label _)::_|.inBlock _::_|.inScope _::_|.code (.seq _ _)::_|.code (.block _ _)::_|.code (.loop _)::_|.inLoop _::_|.code (.scope _)::_=>Ψ
  |.code (.exit id)::k=>(exitTo id k).isSome
  |.code (.cond c _ _)::_=>match fr.eval c with
   |.bool _=>Ψ
   |_=>χ
  |.code (.region _ _ draw)::_=>!draw
  |.inRegion _ []::_=>Ψ
  |.inRegion ops (i::_)::_=>
   if((ops[i]?).map (Region.wanted · (yielded ops fr.tmps))).getD χ then
    match ops[i]? with
    |some o=>((dE P gX (execOp fr.eval o)).map F1).getD χ
    |none=>χ
   else Ψ
  |_=>χ
 |.returning=>match fr.defers with
  |{target:=.fn (.func f) cs,args}::_=>match dE P gX (ZS (.fn (.func f) cs) args)with
   |some (.enter _ _)=>Ψ
   |_=>χ
  |[]=>!callers.isEmpty&&match P.funcs[fr.fn]? with
   |some fn=>(dE P gX (ZJ fn fr.tmps)).isSome
   |none=>χ
  |_=>χ
 |.panicking _=>match fr.defers with
  |{target:=.fn (.func f) cs,args}::_=>match dE P gX (ZS (.fn (.func f) cs) args)with
   |some (.enter _ _)=>Ψ
   |_=>χ
  |_=>χ
def oU(P:Θ)(g:Ω):Bool:=
 match g.status,g.dying,g.offers,g.frame.roundOf,g.frame.kind with
 |.running,ψ,ψ,ψ,.normal|.running,ψ,ψ,ψ,.deferred=>rA P g.frame g.callers
 |_,_,_,_,_=>χ
theorem pM{P:Θ}{g:Ω}(h:oU P g=Ψ):g.status=.running/\g.dying=ψ/\g.offers=ψ/\g.frame.roundOf=ψ/\(g.frame.kind=.normal\/g.frame.kind=.deferred):=by unfold oU at h;split at h<;>first|(cases h;done)|simp_all
theorem D4{P:Θ}{main:Bool}{g:Ω}(h:oU P g=Ψ):∃g',∀w,stepG P main g w=.go g' w #[]:=by
 obtain⟨D,B,E,C,A⟩:=pM h;obtain⟨fr,cs,st,L,off⟩:=g;obtain⟨fn,k,todo,defers,mode,kind,J⟩:=fr;dsimp only at D B E C A;subst D B E C;have F:(kind==.early)=χ:=by rcases A with e|e<;>rw[e]<;>rfl
 have j:rA P ⟨fn,k,todo,defers,mode,kind,ψ⟩ cs=Ψ:=by rcases A with e|e<;>subst e<;>exact h
 unfold rA at j;dsimp only at j;clear h;unfold stepG;dsimp only;cases mode with
 |panicking q=>
  dsimp only at j⊢;unfold unwind;cases defers with
  |nil=>cases j
  |cons d ds=>
   obtain⟨t,s⟩:=d;cases t with
   |fn f y=>
    cases f with
    |func f=>
     dsimp only at j⊢;unfold ZR;dsimp only;cases hp:dE P gX (ZS (.fn (.func f) y) s)with
     |none=>rw[hp]at j;cases j
     |some n=>
      rw[hp]at j;cases n with
      |enter I z=>obtain⟨m,r,p⟩:=fu hp;have hs:seen P fn m=#[]:=jM P fn r;simp only[p,Bool.false_and,Bool.false_eq_true,if_false];exact⟨_,fun w=>by simp only[Array.empty_append,hs,υ];rfl⟩
      |_=>cases j
    |_=>cases j
   |_=>cases j
 |run=>
  dsimp only at j⊢;unfold ο;cases todo with
  |nil=>exact⟨_,fun w=>rfl⟩
  |cons i rest=>
   cases i with
   |code b=>
    cases b with
    |skip=>exact⟨_,fun w=>rfl⟩
    |region id u draw=>
     dsimp only at j;cases draw with
     |true=>cases j
     |false=>exact⟨_,fun w=>rfl⟩
    |seq a b=>exact⟨_,fun w=>rfl⟩
    |cond x a b=>
     dsimp only at j⊢;cases hx:(ZY ⟨fn,k,.code (.cond x a b)::rest,defers,.run,kind,ψ⟩ x)with
     |bool t=>simp only;exact⟨_,fun w=>rfl⟩
     |_=>rw[hx]at j;cases j
    |block id b=>exact⟨_,fun w=>rfl⟩
    |loop b=>exact⟨_,fun w=>rfl⟩
    |rangeFunc x K a b=>cases j
    |exit id=>
     dsimp only at j⊢;cases he:exitTo id rest with
     |none=>rw[he]at j;cases j
     |some t=>exact⟨_,fun w=>rfl⟩
    |scope b=>exact⟨_,fun w=>rfl⟩
    |label l=>exact⟨_,fun w=>rfl⟩
    |goto l=>cases j
    |ret=>exact⟨_,fun w=>rfl⟩
    |refuse G=>cases j
   |inBlock id=>exact⟨_,fun w=>rfl⟩
   |inLoop b=>exact⟨_,fun w=>rfl⟩
   |inScope b=>exact⟨_,fun w=>rfl⟩
   |inRegion u todo=>
    cases todo with
    |nil=>exact⟨_,fun w=>rfl⟩
    |cons i H=>
     dsimp only at j⊢;by_cases hw:(((u[i]?).map (Region.wanted · (yielded u k))).getD χ)=Ψ
     ·rw[if_pos hw]at j;simp only[if_pos hw];unfold stepG.oper;cases ho:u[i]? with
      |none=>rw[ho]at j;cases j
      |some o=>
       rw[ho]at j;simp only[ZE,ho];dsimp only at j;cases hp:dE P gX (execOp (ZY ⟨fn,k,.inRegion u (i::H)::rest,defers,.run,kind,ψ⟩) o)with
       |none=>rw[hp]at j;cases j
       |some n=>
        rw[hp]at j;obtain⟨m,r,p⟩:=fu hp;have hs:seen P fn m=#[]:=jM P fn r;unfold ε;simp only[if_true,p,F,Bool.false_eq_true,if_false];cases n with
        |value v=>exact⟨_,fun w=>by simp only[Array.empty_append,hs,υ];rfl⟩
        |skip=>exact⟨_,fun w=>by simp only[Array.empty_append,hs,υ];rfl⟩
        |enter f s=>exact⟨_,fun w=>by simp only[Array.empty_append,hs,υ];rfl⟩
        |defer d=>exact⟨_,fun w=>by simp only[Array.empty_append,hs,υ];rfl⟩
        |_=>cases j
     ·simp only[if_neg hw];exact⟨_,fun w=>rfl⟩
   |_=>cases j
 |returning=>
  dsimp only at j⊢;unfold unwind;cases defers with
  |cons d ds=>
   obtain⟨t,s⟩:=d;cases t with
   |fn f y=>
    cases f with
    |func f=>
     dsimp only at j⊢;unfold ZR;dsimp only;cases hp:dE P gX (ZS (.fn (.func f) y) s)with
     |none=>rw[hp]at j;cases j
     |some n=>
      rw[hp]at j;cases n with
      |enter I z=>obtain⟨m,r,p⟩:=fu hp;have hs:seen P fn m=#[]:=jM P fn r;simp only[p,Bool.false_and,Bool.false_eq_true,if_false];exact⟨_,fun w=>by simp only[Array.empty_append,hs,υ];rfl⟩
      |_=>cases j
    |_=>cases j
   |_=>cases j
  |nil=>
   dsimp only at j⊢;cases hf:P.funcs[fn]? with
   |none=>rw[hf]at j;simp at j
   |some f=>
    rw[hf]at j;dsimp only at j⊢;cases hp:dE P gX (ZJ f k)with
    |none=>rw[hp]at j;simp at j
    |some v=>
     obtain⟨m,r,p⟩:=fu hp;have hs:seen P fn m=#[]:=jM P fn r;simp only[p,Array.empty_append,hs];cases cs with
     |nil=>simp at j
     |cons c cs=>unfold ZZ;dsimp only;rcases A with e|e<;>subst e<;>exact⟨_,fun w=>by simp only[υ];rfl⟩
def xQ(P:Θ)(main:Bool)(g:Ω):Ω:=match stepG P main g default with|.go g' _ _=>g'|_=>g
theorem D5{P:Θ}{main:Bool}{g:Ω}(h:oU P g=Ψ)(w:Γ):stepG P main g w=.go (xQ P main g) w #[]:=by
 obtain⟨b,a⟩:=D4 (main:=main) h;have:xQ P main g=b:=by unfold xQ;rw[a]
 rw[this];exact a w
def ah(f:Δ)(d:Nat)(g:Ω):Bool:=
 g.frame.fn==f&&match g.frame.mode,g.frame.todo with
 |.run,.inRegion ops (i::_)::_=>((ops[i]?).bind (·.dst))==φ d
 |_,_=>χ
def bN(P:Θ)(main:Bool)(stop:Ω->Bool):Nat->Ω->Ω
 |0,g=>g
 |n+1,g=>if stop g then g else if oU P g then bN P main stop n (xQ P main g)else g
def Path(P:Θ)(main:Bool):Nat->Ω->Ω->Prop
 |0,g,g'=>g'=g
 |n+1,g,g'=>g.status=.running/\∃g1,(∀w,stepG P main g w=.go g1 w #[])/\Path P main n g1 g'
theorem Path.trans{P:Θ}{main:Bool}:∀{n k:Nat} {g g1 g2:Ω},Path P main n g g1->Path P main k g1 g2->Path P main (n+k) g g2
 |0,k,g,g1,g2,h,h'=>by
  cases h
  rw[Nat.zero_add];exact h'
 |n+1,k,g,g1,g2,h,h'=>by rw[show n+1+k=n+k+1 by omega];obtain⟨h1,g3,h2,h3⟩:=h;exact⟨h1,g3,h2,h3.trans h'⟩
theorem ui{P:Θ}{main:Bool}{stop:Ω->Bool}:∀(n:Nat) (g:Ω),∃k,k<=n/\Path P main k g (bN P main stop n g)
 |0,g=>⟨0,Nat.le_refl _,rfl⟩
 |n+1,g=>by
  unfold bN;by_cases hs:stop g=Ψ
  ·rw[if_pos hs];exact⟨0,Nat.zero_le _,rfl⟩
  ·rw[if_neg hs];by_cases hp:oU P g=Ψ
   ·rw[if_pos hp];obtain⟨k,hk,h⟩:=ui n (xQ P main g);exact⟨k+1,by omega,(pM hp).1,_,D5 hp,h⟩
   ·rw[if_neg hp];exact⟨0,Nat.zero_le _,rfl⟩
def xR:Nat->Nat->(Nat->Ξ) ->List Ξ
 |_,0,_=>[]
 |i,n+1,f=>f i::xR (i+1) n f
def l7(n:Nat)(f:Nat->Ξ):Array Ξ:=⟨xR 0 n f⟩
def cO:List (Nat×Ξ) ->(Nat->Ξ) ->Nat->Ξ
 |[],f,i=>f i
 |(j,v)::l,f,i=>match Nat.beq i j with
  |true=>v
  |false=>cO l f i
theorem pN:∀(i n:Nat) (f:Nat->Ξ),(xR i n f).length=n
 |_,0,_=>rfl
 |i,n+1,f=>by simp[xR,pN (i+1) n f]
theorem xS:∀(i n:Nat) (f:Nat->Ξ) (j:Nat),j<n->(xR i n f)[j]?=φ (f (i+j))
 |_,0,_,_,h=>by omega
 |i,n+1,f,0,_=>by simp[xR]
 |i,n+1,f,j+1,h=>by
  simp only[xR,List.getElem?_cons_succ];rw[xS (i+1) n f j (by omega)]
  congr 2
  omega
theorem K'(n:Nat)(f:Nat->Ξ)(i:Nat):(l7 n f)[i]?=if i<n then φ (f i)else ψ:=by
 have e:(l7 n f)[i]?=(xR 0 n f)[i]?:=by unfold l7;exact(List.getElem?_toArray).trans rfl
 rw[e];split
 ·rename_i h;rw[xS 0 n f i h,Nat.zero_add]
 ·rename_i h;rw[List.getElem?_eq_none (by rw[pN];omega)]
theorem R'(a:Array Ξ):a=l7 a.size fun i=>a.getD i undef:=by
 apply Array.ext_getElem?;intro i;rw[K'];split
 ·rename_i h;simp[Array.getElem?_eq_getElem h,h]
 ·rename_i h;exact Array.getElem?_eq_none (by omega)
theorem rB:∀(l:List (Nat×Ξ)) (f:Nat->Ξ),(∀p∈l,f p.1=p.2) ->cO l f=f
 |[],f,_=>rfl
 |(j,v)::l,f,h=>by
  funext i
  simp only[cO,rB l f fun p hp=>h p (List.mem_cons_of_mem _ hp)];cases hb:Nat.beq i j with
  |false=>rfl
  |true=>rw[Nat.eq_of_beq_eq_true hb];exact(h (j,v) List.mem_cons_self).symm
theorem uj{a:Array Ξ}{n:Nat}(hn:a.size=n)(l:List (Nat×Ξ))(h:∀p∈l,a.getD p.1 undef=p.2):a=l7 n (cO l fun i=>a.getD i undef):=by rw[rB l _ h,<-hn];exact R' a
def aC(f:Δ)(d:Nat)(g:Ω):Bool:=
 g.frame.fn==f&&match g.frame.mode,g.frame.todo with
 |.run,.code (.cond (.tmp j) _ _)::_=>j==d
 |_,_=>χ
def never(_:Ω):Bool:=χ
def FG(fn:Δ)(tmps:Array Ξ)(T:List Item)(cs:List ξ):Ω:=G {fn,tmps,todo:=T,defers:=[],mode:=.run,kind:=.normal} cs
def At(fn:Δ)(n:Nat)(T:List Item)(l:List (Nat×Ξ))(cs:List ξ)(g:Ω):Prop:=∃f,g=FG fn (l7 n (cO l f)) T cs
def ak(P:Θ)(main:Bool)(n:Nat)(S:Ω->Prop)(g:Ω):Prop:=∃k,k<=n/\∃g',Path P main k g g'/\S g'
section
variable{P:Θ}{main:Bool}{S S':Ω->Prop}{g:Ω}
theorem ak.trans{n k:Nat}(h:ak P main n S g)(h':∀g,S g->ak P main k S' g):ak P main (n+k) S' g:=by obtain⟨i,hi,b,e,c⟩:=h;obtain⟨j,l,a,f,d⟩:=h' b c;exact⟨i+j,by omega,a,e.trans f,d⟩
theorem ak.mono{n k:Nat}(h:ak P main n S g)(hk:n<=k)(h':∀g,S g->S' g):ak P main k S' g:=by obtain⟨i,hi,c,a,b⟩:=h;exact⟨i,by omega,c,a,h' _ b⟩
theorem ak.run(stop:Ω->Bool)(n:Nat)(h:S (bN P main stop n g)):ak P main n S g:=by obtain⟨k,b,a⟩:=ui (P:=P) (main:=main) (stop:=stop) n g;exact⟨k,b,_,a,h⟩
theorem At.of{fn:Δ}{n:Nat}{T:List Item}{l:List (Nat×Ξ)}{cs:List ξ}{r:Ω}(h1:r=FG fn r.frame.tmps T cs)(h2:r.frame.tmps.size=n)(h3:(l.map fun p=>r.frame.tmps.getD p.1 undef)=l.map Prod.snd):At fn n T l cs r:=by
 refine⟨fun i=>r.frame.tmps.getD i undef,?_⟩;rw[<-uj h2 l fun p a=>?_]
 ·exact h1
 ·obtain⟨i,hi,rfl⟩:=List.mem_iff_getElem.1 a;have:=congrArg (fun x=>x[i]?) h3;simpa[hi]using this
theorem At.QF{fn fn':Δ}{n n':Nat}{T T':List Item}{l l':List (Nat×Ξ)}{cs cs':List ξ}(stop:Ω->Bool)(k:Nat)(h1:∀f,bN P main stop k (FG fn (l7 n (cO l f)) T cs)=FG fn' (bN P main stop k (FG fn (l7 n (cO l f)) T cs)).frame.tmps T' cs')
 (h2:∀f,(bN P main stop k (FG fn (l7 n (cO l f)) T cs)).frame.tmps.size=n') (h3:∀f,(l'.map fun p=>(bN P main stop k (FG fn (l7 n (cO l f)) T cs)).frame.tmps.getD p.1 undef)=l'.map Prod.snd) (g:Ω) (h:At fn n T l cs g):ak P main k (At fn' n' T' l' cs') g:=by
 obtain⟨f,rfl⟩:=h;exact ak.run stop k (At.of (h1 f) (h2 f) (h3 f))
end
def fin(v:Ξ)(g:Ω):Ω:={g with frame:=g.frame.finish v}
end
end Ph
