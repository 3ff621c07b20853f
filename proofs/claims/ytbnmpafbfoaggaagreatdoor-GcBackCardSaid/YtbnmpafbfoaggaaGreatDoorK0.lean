/- GcBack: for heaps of layer 22 made of any numbers, and for what a collection leaves of them, the plain heap of the heap of two spaces made of it is the same heap, and as many old cells are made as are not free, in the given program, on every schedule and whatever the tape; no conditions. -/
import GoSem.Core.World
import Derived.Test.YtbnmpafbfoaggaaGreatDoorProg
import Derived.WalkKit
import Derived.KernelRfl
set_option linter.defProp false
set_option linter.unusedVariables false
set_option linter.unusedSimpArgs false
set_option maxRecDepth 100000
set_option maxHeartbeats 16000000
noncomputable section
open Option renaming some->U,none->V
open Go.Result renaming andThen_ok->Ω,andThen_halt->Γ
open Go.Sem renaming run_bind->Ψ,run_pure->Δ
open Go renaming underlying->Ξ,zeroValue->Θ,Code->ω,Operand->ψ,typeInfo->χ,sizeOf->φ
namespace Go.Proofs.YtbnmpafbfoaggaaGreatDoor
section
open Go
instance:Coe Nat Addr:=⟨λk=>⟨k,0,V⟩⟩
instance:Coe Nat (Option Addr):=⟨λk=>U ⟨k,0,V⟩⟩
instance (k i:Nat):CoeDep (Nat×Nat) (k,i) Addr:=⟨⟨k,i,V⟩⟩
instance (k i:Nat):CoeDep (Nat×Nat) (k,i) (Option Addr):=⟨U ⟨k,i,V⟩⟩
instance:Coe World Nat:=⟨λw=>w.heap.size⟩
instance:CoeFun World (λ_=>Addr->Option Value):=⟨λw=>w.cell?⟩
instance:Coe Int Value:=⟨λk=>.int .i64 k⟩
instance:Coe Nat Value:=⟨λk=>.int .i64 (k:Int)⟩
instance:Coe Unit Value:=⟨λ_=>.slice V 0 0⟩
end
namespace Vc
open Go
def rg(dst:Option Tmp)(op:Op):ω:=.region 0 #[{dst,op,type:=0,pos:= "",after:=#[],guard:=V}] false
def tm(n:Nat):ψ:=.tmp n
def ci(n:Int):ψ:=.const<|.int .i64 n
def Hq:ψ:=.const<|.slice V 0 0
def rf:ω:=.refuse ""
def sq:List ω->ω
 |[]=>.skip
 |[a]=>a
 |a::l=>.seq a<|sq l
def yS(t:TypeId)(x:Nat):Op:=.call {callee:=.builtin .len,args:=#[tm x],argTypes:=#[t]}
def cmp(o:BinOp)(x:ψ)(y:ψ):Op:=.binOp o 3 x y 3
def Hr:ω:=.region 0 #[{dst:=U 43,op:=.move<|.const<|.bool true,type:=0,pos:= "",after:=#[],guard:=V},{dst:=V,op:=.extract (ci 0) 0,type:=0,pos:= "",after:=#[],guard:=U (0,true)}] false
def aE:Array Oper:=#[{dst:=U 42,op:=.assign<|.const<|.bool true,type:=0,pos:= "",after:=#[],guard:=V},{dst:=U 42,op:=.assign<|.const<|.bool false,type:=0,pos:= "",after:=#[],guard:=V}]
def tE(k:Nat)(t:TypeId):ω:=.seq (.region (100+k) aE true)<|.cond (tm 42) (rg (U 41)<|.box t<|.const<|.agg #[]) .skip
def Xk(x:Nat)(op:Op):ω:=.seq (rg (U x) op)<|.cond (tm x) rf .skip
def adR:ω:=sq [rg (U 31) (.indexAddr 23 (tm 22) (tm 30)),rg (U 32) (.load 50 (tm 31)),rg (U 33) (.field 50 (tm 32) 0),rg (U 34) (.field 50 (tm 32) 1),rg (U 40) (cmp .lss (tm 33) (ci 0)),rg (U 40) (cmp .lss (tm 34) (ci 0)),
 rg (U 35) (cmp .eql (tm 33)<|ci 0),.cond (tm 35) (.seq (Xk 36<|cmp .lss (tm 34)<|ci<|-99)<|Xk 37<|cmp .gtr (tm 34)<|ci 99)
  (.seq (rg (U 38) (cmp .eql (tm 33) (ci 2))) (.cond (tm 38) (Xk 36 (cmp .neq (tm 34) (ci 0)))
    (.seq (rg (U 39) (cmp .eql (tm 33) (ci 3))) (.cond (tm 39) (.seq (Xk 36 (cmp .lss (tm 34) (ci 0))) (Xk 37 (cmp .geq (tm 34) (tm 10))))
      (.seq (rg (U 14) (cmp .eql (tm 33) (ci 4))) (.cond (tm 14) (.seq (Xk 36 (cmp .lss (tm 34) (ci 0))) (Xk 37 (cmp .geq (tm 34) (tm 13)))) rf))))))]
def cellC:ω:=sq [rg (U 19) (.indexAddr 22 (tm 1) (tm 17)),rg (U 20) (.load 76 (tm 19)),rg (U 21) (.field 76 (tm 20) 0),rg (U 22) (.field 76 (tm 20) 1),rg (U 41) (cmp .lss (tm 21) (ci 0)),rg (U 40) (.binOp .eql 23 (tm 22) Hq 23),rg (U 24) (yS 23 22),.cond (tm 40) (Xk 41 (cmp .neq (tm 24) (ci 0))) .skip,
 rg (U 25) (cmp .eql (tm 21)<|ci 0),.cond (tm 25) (Xk 26<|cmp .gtr (tm 24)<|ci 4)
  (.seq (rg (U 27) (cmp .eql (tm 21) (ci 1))) (.cond (tm 27) (Xk 26 (cmp .neq (tm 24) (ci 1)))
    (.seq (rg (U 23) (cmp .eql (tm 21) (ci 2))) (.cond (tm 23) (Xk 26 (cmp .neq (tm 24) (ci 2))) rf)))),
 rg (U 30) (.move (ci 0)),.block 1 (.loop (sq [rg (U 29) (cmp .lss (tm 30) (tm 24)),.cond (tm 29) .skip (.exit 1),adR,rg (U 28) (.binOp .add 3 (tm 30) (ci 1) 3),rg (U 30) (.move (tm 28))]))]
def aee:ω:=sq [tE 0 104,tE 1 34,tE 2 83,tE 3 249,tE 4 255,tE 5 3,tE 6 76,tE 7 50]
def Hs:ω:=sq [Hr,rg (U 40) (.binOp .eql 22 (tm 1) Hq 22),rg (U 41) (cmp .lss (tm 2) (ci 0)),rg (U 6) (.binOp .eql 104 (tm 0) (.const (.pointer V)) 104),.cond (tm 6) rf .skip,rg (U 3) (yS 22 1),.cond (tm 40) (Xk 41 (cmp .neq (tm 3) (ci 0))) .skip,rg (U 4) (cmp .gtr (tm 3) (tm 2)),.cond (tm 4) rf .skip,rg (U 5) (cmp .gtr (tm 3) (ci 1000000)),.cond (tm 5) rf .skip,
 rg (U 6) (.nilCheck<|tm 0),rg (U 7) (.fieldAddr 114 (tm 6) 0),rg (U 8) (.fieldAddr 26 (tm 7) 0),rg (U 9) (.load 22<|tm 8),rg (U 40) (.binOp .eql 22 (tm 9) Hq 22),rg (U 10) (yS 22 9),
 rg (U 11) (.fieldAddr 26 (tm 7) 1),rg (U 12) (.load 22<|tm 11),rg (U 40) (.binOp .eql 22 (tm 12) Hq 22),rg (U 13) (yS 22 12),
 rg (U 17) (.move<|ci 0),.block 0 (.loop<|sq [rg (U 18) (cmp .lss (tm 17)<|tm 3),.cond (tm 18) .skip<|.exit 0,cellC,rg (U 16)<|.binOp .add 3 (tm 17) (ci 1) 3,rg (U 17)<|.move<|tm 16]),
 rg (U 17) (.move (ci 0)),.block 2 (.loop (sq [rg (U 15) (cmp .lss (tm 17) (ci 2199023255552)),.cond (tm 15) .skip (.exit 2),aee,rg (U 16) (.binOp .add 3 (tm 17) (ci 1) 3),rg (U 17) (.move (tm 16))])),.ret]
def na:Func:={name:= "dead",origin:= "",params:=#[],resultTypes:=#[],nfree:=0,ntmps:=0,results:=#[],body:=V,norace:=false,tmpNames:=#[]}
noncomputable def f166:Func:=(Tryz.prog.funcs[166]?).getD na
noncomputable def Vm:Func:={f166 with body:=U Hs,ntmps:=43}
def yT:List Nat:=[2,210,216,250,251,272]
def ED:List Nat:=[192,193,194,228,229,230,302,335,337,338]
noncomputable def yU (i:Nat) (f:Func):Func:=if i==166 then Vm else if f.body.isSome then(if yT.contains i then na else f)else if ED.contains i then f else na
noncomputable def Bp:Nat->List Func->List Func
 |_,[]=>[]
 |i,f::l=>yU i f::Bp (i+1) l
noncomputable def PV:Program:={Tryz.prog with funcs:=⟨Bp 0 Tryz.prog.funcs.toList⟩}
def zg:∀l i j,(Bp i l)[j]?=(l[j]?).map (yU<|i+j)
 |[],i,j=>by simp[Bp]
 |f::l,i,0=>by simp[Bp]
 |f::l,i,j+1=>by simp only[Bp,List.getElem?_cons_succ];rw[zg l (i+1) j,show i+1+j=i+(j+1) by omega]
def afD(f:FuncId):PV.funcs[f]?=(Tryz.prog.funcs[f]?).map (yU f):=by have:=zg Tryz.prog.funcs.toList 0 f;rw[Nat.zero_add]at this;show(⟨Bp 0 Tryz.prog.funcs.toList⟩:Array Func)[f]?=_;rw[List.getElem?_toArray,this,Array.getElem?_toList]
end Vc
end Go.Proofs.YtbnmpafbfoaggaaGreatDoor
namespace Go.Proofs.aD
open Go Go.Proofs.YtbnmpafbfoaggaaGreatDoor.Vc
section
def prog:Program:=Go.Proofs.YtbnmpafbfoaggaaGreatDoor.Vc.PV
section
variable(t:TypeId)(w:World){P Q:Program}
def gU(h:P.underlying t=Q.underlying t):(Ξ t).run P w=(Ξ t).run Q w:=by simp only[Ξ,Ψ,program,Sem.run,h,Ω];cases Q.underlying t<;>rfl
def gI(h:P.info? t=Q.info? t):(χ t).run P w=(χ t).run Q w:=by simp only[χ,Ψ,program,Sem.run,h,Ω];cases Q.info? t<;>rfl
def gS(h:P.info? t=Q.info? t):(φ t).run P w=(φ t).run Q w:=by simp only[φ,Ψ,gI t w h];rfl
def gA(h:P.underlying t=Q.underlying t):(isAgg t).run P w=(isAgg t).run Q w:=by
 simp only[isAgg,Ψ,gU t w h];generalize (Ξ t).run Q w=r;cases r with
 |ok d w=>simp only[Ω];split<;>simp only[Δ]
 |halt h w=>simp only[Γ]
def gZ(h:P.info? t=Q.info? t):(Θ t).run P w=(Θ t).run Q w:=by
 simp only[Θ,Ψ,gI t w h];generalize (χ t).run Q w=r;cases r with
 |ok d w=>
  simp only[Ω];generalize d.zero=z;obtain _|v:=z
  simp[unsupported];simp only[Δ]
 |halt h w=>simp only[Γ]
end
section
variable(t:TypeId)(w:World)
@[simp] def amQ:prog.types=Tryz.prog.types:=by kernel_rfl
@[simp] def lq:prog.underlying t=Tryz.prog.underlying t:=by kernel_rfl
@[simp] def Q0:prog.info? t=Tryz.prog.info? t:=by kernel_rfl
@[simp] def Ii:(Ξ t).run prog w=(Ξ t).run Tryz.prog w:=gU t w<|lq t
@[simp] def ajV:(φ t).run prog w=(φ t).run Tryz.prog w:=gS t w<|Q0 t
@[simp] def amR:(isAgg t).run prog w=(isAgg t).run Tryz.prog w:=gA t w<|lq t
@[simp] def VV:(Θ t).run prog w=(Θ t).run Tryz.prog w:=gZ t w<|Q0 t
@[simp] def NT(n):prog.eqGuardType n t=Tryz.prog.eqGuardType n t:=by kernel_rfl
@[simp] def amS:prog.depth=Tryz.prog.depth:=by kernel_rfl
end
@[simp] def okc(f:Nat):Bool:=2<f&&f<166||166<f&&f<192||194<f&&f<210||210<f&&f<216||216<f&&f<228||230<f&&f<235||256<f&&f<265||275<f&&f<280||305<f&&f<311||315<f&&f<334
def Qf:(List.range 350).all (λf=>!okc f||(!yT.contains f&&(Tryz.prog.funcs[f]?).any λg=>g.body.isSome&&!(g.name== "runtime.NumGoroutine")))=true:=by kernel_rfl
def fU3{i f}(h:Tryz.prog.funcs[i]?=U f)(hi:okc i=true):prog.funcs[i]?=U f/\f.body.isSome=true/\(f.name== "runtime.NumGoroutine")=false:=by
 have a:=List.all_eq_true.1 Qf i<|List.mem_range.2 (by simp at hi;omega);have b:(i==166)=false:=by simp at hi⊢;omega
 simp only[hi,Bool.not_true,Bool.false_or,h,Option.any_some,Bool.and_eq_true,Bool.not_eq_true']at a;have e:prog.funcs[i]?=U (yU i f):=(afD i).trans (by rw[h];rfl);rw[e];exact⟨by simp only[yU,b,a.1,a.2.1,if_true,Bool.false_eq_true,if_false],a.2⟩
def fU{i f}(h:Tryz.prog.funcs[i]?=U f)(hi:okc i=true):prog.funcs[i]?=U f:=(fU3 h hi).1
@[simp] def KE (f args w) (hi:okc f=true):(callFunc f args).run prog w=.ok (.enter f args) w:=by
  have a:=List.all_eq_true.1 Qf f<|List.mem_range.2 (by simp at hi;omega);cases hf:Tryz.prog.funcs[f]? with
  |none=>simp only[hi,hf,Bool.not_true,Bool.false_or,Option.any_none,Bool.and_false]at a;cases a
  |some g=>
   obtain⟨b,h3,h4⟩:=fU3 hf hi;have hb:g.body.isNone=false:=by simpa using h3
   unfold callFunc;simp only[Ψ,program,Sem.run,b,Ω,h4,hb,Bool.false_eq_true,if_false,Δ]
end
end Go.Proofs.aD
namespace Go.Proofs.YtbnmpafbfoaggaaGreatDoor
