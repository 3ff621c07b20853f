/- GcKnown: the examples of the collector that the document gives have their results in the given program, on every schedule and whatever the tape; no conditions. -/
import Derived.Test.YtbnmpafbfoaggaaGreatDoorProg
import Derived.WalkKit
import Derived.KernelRfl
import Init
import Derived.LoopTactic
import Derived.RegionTactic
import Derived.Deep.QuietTactic
import Derived.BigQuiet
import Derived.Outline
import Derived.OwnWalk
import Derived.Laws.StructEq
import Derived.Lib.Hide
import Derived.Maps.AppendAt
import Derived.Laws.MakeOwn
import Derived.Laws.Entries
import Derived.WalkSpells
import Derived.WalkMore
set_option linter.unusedVariables false
set_option linter.unusedSimpArgs false
set_option maxRecDepth 100000
set_option maxHeartbeats 16000000
noncomputable section
open Go renaming callFunc->Ω,Value->Ψ,World->Θ,Calls->ο,bodyPost_ret->μ,Operand->ζ,maxLen->Z8,results->Z7,TypeId->Z3,wp_seq->Z0,madeCells->ZX,Program->ZU,underlying->ZT,info_parts->ZS,wpList->ZP,typeInfo->ZK,wpList_append_own->ZJ,zeroValue->ZH,Addr->ZD,sizeOf->ZC,heap_alloc_new->Zz,execOp->Zx
open Option renaming some->Ξ,none->υ
open Go.RowKit.Below renaming refl->Δ
open Go.Lib renaming hid->Γ,run_eql_slice_nil->ZW
open Go.IntKind renaming i64->ω
open Go.Value renaming int->ψ,slice->η,pointer->ZL
open Go.RowKit renaming Below->χ
open Bool renaming false->φ,true->κ
open Go.Region.linearise renaming go->ξ
open Array renaming replicate->ι,getElem?_setIfInBounds->ZN,size_setIfInBounds->ZG,ext_getElem?->Zw
open Go.Result renaming andThen_ok->θ,andThen_halt->ZA
open Go.Proofs.Tryz renaming ntmps169->ε,ntmps167->ZR,prog->ZO,results277->ZM,ntmps277->ZF
open Go.Addr renaming add->Z9
open Go.Sem renaming run_bind->Z4,run_pure->ZB
open Go.Act renaming eval->Z2,put->Z1
open Go.Builtin renaming append_->ZZ,firstCells->Zy
open Go.Region renaming schedule->ZY,wanted->ZI,binds->ZE
open Go.Obj renaming cells->ZV
open Go.World renaming ownsRow_nil->ZQ
namespace Go.Proofs.YtbnmpafbfoaggaaGreatDoor
namespace Vc
open Go
def rg(dst:Option Tmp)(op:Op):Code:=.region 0 #[{dst,op,type:=0,pos:= "",after:=#[],guard:=υ}] φ
def tm(n:Nat):ζ:=.tmp n
def ci(n:Int):ζ:=.const (ψ ω n)
def Hq:ζ:=.const (η υ 0 0)
def rf:Code:=.refuse ""
def sq:List Code->Code
 |[]=>.skip
 |[a]=>a
 |a::l=>.seq a (sq l)
def yS(t:Z3)(x:Nat):Op:=.call {callee:=.builtin .len,args:=#[tm x],argTypes:=#[t]}
def cmp(o:BinOp)(x:ζ)(y:ζ):Op:=.binOp o 3 x y 3
def Hr:Code:=.region 0 #[{dst:=Ξ 43,op:=.move (.const (.bool κ)),type:=0,pos:= "",after:=#[],guard:=υ},{dst:=υ,op:=.extract (ci 0) 0,type:=0,pos:= "",after:=#[],guard:=Ξ (0,κ)}] φ
def aE:Array Oper:=#[{dst:=Ξ 42,op:=.assign (.const (.bool κ)),type:=0,pos:= "",after:=#[],guard:=υ},{dst:=Ξ 42,op:=.assign (.const (.bool φ)),type:=0,pos:= "",after:=#[],guard:=υ}]
def tE(k:Nat)(t:Z3):Code:=.seq (.region (100+k) aE κ) (.cond (tm 42) (rg (Ξ 41) (.box t (.const (.agg #[])))) .skip)
def EC(x:Nat)(op:Op):Code:=.seq (rg (Ξ x) op) (.cond (tm x) rf .skip)
def adR:Code:=sq [rg (Ξ 31) (.indexAddr 23 (tm 22) (tm 30)),rg (Ξ 32) (.load 50 (tm 31)),rg (Ξ 33) (.field 50 (tm 32) 0),rg (Ξ 34) (.field 50 (tm 32) 1),rg (Ξ 40) (cmp .lss (tm 33) (ci 0)),rg (Ξ 40) (cmp .lss (tm 34) (ci 0)),
 rg (Ξ 35) (cmp .eql (tm 33) (ci 0)),.cond (tm 35) (.seq (EC 36 (cmp .lss (tm 34) (ci (-99)))) (EC 37 (cmp .gtr (tm 34) (ci 99))))
  (.seq (rg (Ξ 38) (cmp .eql (tm 33) (ci 2))) (.cond (tm 38) (EC 36 (cmp .neq (tm 34) (ci 0)))
    (.seq (rg (Ξ 39) (cmp .eql (tm 33) (ci 3))) (.cond (tm 39) (.seq (EC 36 (cmp .lss (tm 34) (ci 0))) (EC 37 (cmp .geq (tm 34) (tm 10))))
      (.seq (rg (Ξ 14) (cmp .eql (tm 33) (ci 4))) (.cond (tm 14) (.seq (EC 36 (cmp .lss (tm 34) (ci 0))) (EC 37 (cmp .geq (tm 34) (tm 13)))) rf))))))]
def cellC:Code:=sq [rg (Ξ 19) (.indexAddr 22 (tm 1) (tm 17)),rg (Ξ 20) (.load 76 (tm 19)),rg (Ξ 21) (.field 76 (tm 20) 0),rg (Ξ 22) (.field 76 (tm 20) 1),rg (Ξ 41) (cmp .lss (tm 21) (ci 0)),rg (Ξ 40) (.binOp .eql 23 (tm 22) Hq 23),rg (Ξ 24) (yS 23 22),.cond (tm 40) (EC 41 (cmp .neq (tm 24) (ci 0))) .skip,
 rg (Ξ 25) (cmp .eql (tm 21) (ci 0)),.cond (tm 25) (EC 26 (cmp .gtr (tm 24) (ci 4)))
  (.seq (rg (Ξ 27) (cmp .eql (tm 21) (ci 1))) (.cond (tm 27) (EC 26 (cmp .neq (tm 24) (ci 1)))
    (.seq (rg (Ξ 23) (cmp .eql (tm 21) (ci 2))) (.cond (tm 23) (EC 26 (cmp .neq (tm 24) (ci 2))) rf)))),
 rg (Ξ 30) (.move (ci 0)),.block 1 (.loop (sq [rg (Ξ 29) (cmp .lss (tm 30) (tm 24)),.cond (tm 29) .skip (.exit 1),adR,rg (Ξ 28) (.binOp .add 3 (tm 30) (ci 1) 3),rg (Ξ 30) (.move (tm 28))]))]
def Nk:Code:=sq [tE 0 104,tE 1 34,tE 2 83,tE 3 249,tE 4 255,tE 5 3,tE 6 76,tE 7 50]
def Hs:Code:=sq [Hr,rg (Ξ 40) (.binOp .eql 22 (tm 1) Hq 22),rg (Ξ 41) (cmp .lss (tm 2) (ci 0)),rg (Ξ 6) (.binOp .eql 104 (tm 0) (.const (ZL υ)) 104),.cond (tm 6) rf .skip,rg (Ξ 3) (yS 22 1),.cond (tm 40) (EC 41 (cmp .neq (tm 3) (ci 0))) .skip,rg (Ξ 4) (cmp .gtr (tm 3) (tm 2)),.cond (tm 4) rf .skip,rg (Ξ 5) (cmp .gtr (tm 3) (ci 1000000)),.cond (tm 5) rf .skip,
 rg (Ξ 6) (.nilCheck (tm 0)),rg (Ξ 7) (.fieldAddr 114 (tm 6) 0),rg (Ξ 8) (.fieldAddr 26 (tm 7) 0),rg (Ξ 9) (.load 22 (tm 8)),rg (Ξ 40) (.binOp .eql 22 (tm 9) Hq 22),rg (Ξ 10) (yS 22 9),
 rg (Ξ 11) (.fieldAddr 26 (tm 7) 1),rg (Ξ 12) (.load 22 (tm 11)),rg (Ξ 40) (.binOp .eql 22 (tm 12) Hq 22),rg (Ξ 13) (yS 22 12),
 rg (Ξ 17) (.move (ci 0)),.block 0 (.loop (sq [rg (Ξ 18) (cmp .lss (tm 17) (tm 3)),.cond (tm 18) .skip (.exit 0),cellC,rg (Ξ 16) (.binOp .add 3 (tm 17) (ci 1) 3),rg (Ξ 17) (.move (tm 16))])),
 rg (Ξ 17) (.move (ci 0)),.block 2 (.loop (sq [rg (Ξ 15) (cmp .lss (tm 17) (ci 2199023255552)),.cond (tm 15) .skip (.exit 2),Nk,rg (Ξ 16) (.binOp .add 3 (tm 17) (ci 1) 3),rg (Ξ 17) (.move (tm 16))])),.ret]
def na:Func:={name:= "dead",origin:= "",params:=#[],resultTypes:=#[],nfree:=0,ntmps:=0,results:=#[],body:=υ,norace:=φ,tmpNames:=#[]}
noncomputable def f166:Func:=(Tryz.prog.funcs[166]?).getD na
noncomputable def Vm:Func:={f166 with body:=Ξ Hs,ntmps:=43}
def yT:List Nat:=[2,210,216,250,251,272]
def ED:List Nat:=[192,193,194,228,229,230,302,335,337,338]
noncomputable def yU (i:Nat) (f:Func):Func:=if i==166 then Vm else if f.body.isSome then(if yT.contains i then na else f)else if ED.contains i then f else na
noncomputable def Bp:Nat->List Func->List Func
 |_,[]=>[]
 |i,f::l=>yU i f::Bp (i+1) l
noncomputable def PV:ZU:={ZO with funcs:=⟨Bp 0 Tryz.prog.funcs.toList⟩}
end Vc
end Go.Proofs.YtbnmpafbfoaggaaGreatDoor
namespace Go.Proofs.aD
open Go
section
def prog:ZU:=Go.Proofs.YtbnmpafbfoaggaaGreatDoor.Vc.PV
section
variable(t:Z3)(w:Θ){P Q:ZU}
theorem gU(h:P.underlying t=Q.underlying t):(ZT t).run P w=(ZT t).run Q w:=by simp only[ZT,Z4,program,Sem.run,h,θ];cases Q.underlying t<;>rfl
theorem gI(h:P.info? t=Q.info? t):(ZK t).run P w=(ZK t).run Q w:=by simp only[ZK,Z4,program,Sem.run,h,θ];cases Q.info? t<;>rfl
theorem gS(h:P.info? t=Q.info? t):(ZC t).run P w=(ZC t).run Q w:=by simp only[ZC,Z4,gI t w h];rfl
theorem gA(h:P.underlying t=Q.underlying t):(isAgg t).run P w=(isAgg t).run Q w:=by
 simp only[isAgg,Z4,gU t w h];generalize (ZT t).run Q w=r;cases r with
 |ok d w=>simp only[θ];split<;>simp only[ZB]
 |halt h w=>simp only[ZA]
theorem gZ(h:P.info? t=Q.info? t):(ZH t).run P w=(ZH t).run Q w:=by
 simp only[ZH,Z4,gI t w h];generalize (ZK t).run Q w=r;cases r with
 |ok d w=>
  simp only[θ];generalize d.zero=z;cases z with
  |some v=>simp only[ZB]
  |none=>simp[unsupported]
 |halt h w=>simp only[ZA]
end
section
variable(t:Z3)(w:Θ)
@[simp] theorem amQ:prog.types=Tryz.prog.types:=by kernel_rfl
@[simp] theorem lq:prog.underlying t=Tryz.prog.underlying t:=by kernel_rfl
@[simp] theorem Q0:prog.info? t=Tryz.prog.info? t:=by kernel_rfl
@[simp] theorem Ii:(ZT t).run prog w=(ZT t).run ZO w:=gU t w (lq t)
@[simp] theorem ajV:(ZC t).run prog w=(ZC t).run ZO w:=gS t w (Q0 t)
@[simp] theorem amR:(isAgg t).run prog w=(isAgg t).run ZO w:=gA t w (lq t)
@[simp] theorem VV:(ZH t).run prog w=(ZH t).run ZO w:=gZ t w (Q0 t)
@[simp] theorem NT(n:Nat):prog.eqGuardType n t=Tryz.prog.eqGuardType n t:=by kernel_rfl
@[simp] theorem amS:prog.depth=Tryz.prog.depth:=by kernel_rfl
end
@[simp] theorem func10:prog.funcs[10]?=Ξ Tryz.f10:=by kernel_rfl
@[simp] theorem func18:prog.funcs[18]?=Ξ Tryz.f18:=by kernel_rfl
@[simp] theorem call18(args:Array Ψ)(w:Θ):(Ω 18 args).run prog w=.ok (.enter 18 args) w:=by kernel_rfl
@[simp] theorem func22:prog.funcs[22]?=Ξ Tryz.f22:=by kernel_rfl
@[simp] theorem call22(args:Array Ψ)(w:Θ):(Ω 22 args).run prog w=.ok (.enter 22 args) w:=by kernel_rfl
@[simp] theorem func24:prog.funcs[24]?=Ξ Tryz.f24:=by kernel_rfl
@[simp] theorem call24(args:Array Ψ)(w:Θ):(Ω 24 args).run prog w=.ok (.enter 24 args) w:=by kernel_rfl
@[simp] theorem func26:prog.funcs[26]?=Ξ Tryz.f26:=by kernel_rfl
@[simp] theorem call26(args:Array Ψ)(w:Θ):(Ω 26 args).run prog w=.ok (.enter 26 args) w:=by kernel_rfl
@[simp] theorem func27:prog.funcs[27]?=Ξ Tryz.f27:=by kernel_rfl
@[simp] theorem call27(args:Array Ψ)(w:Θ):(Ω 27 args).run prog w=.ok (.enter 27 args) w:=by kernel_rfl
@[simp] theorem func28:prog.funcs[28]?=Ξ Tryz.f28:=by kernel_rfl
@[simp] theorem call28(args:Array Ψ)(w:Θ):(Ω 28 args).run prog w=.ok (.enter 28 args) w:=by kernel_rfl
@[simp] theorem func36:prog.funcs[36]?=Ξ Tryz.f36:=by kernel_rfl
@[simp] theorem call36(args:Array Ψ)(w:Θ):(Ω 36 args).run prog w=.ok (.enter 36 args) w:=by kernel_rfl
@[simp] theorem func43:prog.funcs[43]?=Ξ Tryz.f43:=by kernel_rfl
@[simp] theorem call43(args:Array Ψ)(w:Θ):(Ω 43 args).run prog w=.ok (.enter 43 args) w:=by kernel_rfl
@[simp] theorem func45:prog.funcs[45]?=Ξ Tryz.f45:=by kernel_rfl
@[simp] theorem call45(args:Array Ψ)(w:Θ):(Ω 45 args).run prog w=.ok (.enter 45 args) w:=by kernel_rfl
@[simp] theorem func47:prog.funcs[47]?=Ξ Tryz.f47:=by kernel_rfl
@[simp] theorem call47(args:Array Ψ)(w:Θ):(Ω 47 args).run prog w=.ok (.enter 47 args) w:=by kernel_rfl
@[simp] theorem func49:prog.funcs[49]?=Ξ Tryz.f49:=by kernel_rfl
@[simp] theorem call49(args:Array Ψ)(w:Θ):(Ω 49 args).run prog w=.ok (.enter 49 args) w:=by kernel_rfl
@[simp] theorem func51:prog.funcs[51]?=Ξ Tryz.f51:=by kernel_rfl
@[simp] theorem call51(args:Array Ψ)(w:Θ):(Ω 51 args).run prog w=.ok (.enter 51 args) w:=by kernel_rfl
@[simp] theorem func52:prog.funcs[52]?=Ξ Tryz.f52:=by kernel_rfl
@[simp] theorem call52(args:Array Ψ)(w:Θ):(Ω 52 args).run prog w=.ok (.enter 52 args) w:=by kernel_rfl
@[simp] theorem func53:prog.funcs[53]?=Ξ Tryz.f53:=by kernel_rfl
@[simp] theorem call53(args:Array Ψ)(w:Θ):(Ω 53 args).run prog w=.ok (.enter 53 args) w:=by kernel_rfl
@[simp] theorem func54:prog.funcs[54]?=Ξ Tryz.f54:=by kernel_rfl
@[simp] theorem call54(args:Array Ψ)(w:Θ):(Ω 54 args).run prog w=.ok (.enter 54 args) w:=by kernel_rfl
@[simp] theorem func55:prog.funcs[55]?=Ξ Tryz.f55:=by kernel_rfl
@[simp] theorem call55(args:Array Ψ)(w:Θ):(Ω 55 args).run prog w=.ok (.enter 55 args) w:=by kernel_rfl
@[simp] theorem func56:prog.funcs[56]?=Ξ Tryz.f56:=by kernel_rfl
@[simp] theorem call56(args:Array Ψ)(w:Θ):(Ω 56 args).run prog w=.ok (.enter 56 args) w:=by kernel_rfl
@[simp] theorem func57:prog.funcs[57]?=Ξ Tryz.f57:=by kernel_rfl
@[simp] theorem call57(args:Array Ψ)(w:Θ):(Ω 57 args).run prog w=.ok (.enter 57 args) w:=by kernel_rfl
@[simp] theorem func58:prog.funcs[58]?=Ξ Tryz.f58:=by kernel_rfl
@[simp] theorem call58(args:Array Ψ)(w:Θ):(Ω 58 args).run prog w=.ok (.enter 58 args) w:=by kernel_rfl
@[simp] theorem func59:prog.funcs[59]?=Ξ Tryz.f59:=by kernel_rfl
@[simp] theorem call59(args:Array Ψ)(w:Θ):(Ω 59 args).run prog w=.ok (.enter 59 args) w:=by kernel_rfl
@[simp] theorem func60:prog.funcs[60]?=Ξ Tryz.f60:=by kernel_rfl
@[simp] theorem call60(args:Array Ψ)(w:Θ):(Ω 60 args).run prog w=.ok (.enter 60 args) w:=by kernel_rfl
@[simp] theorem func61:prog.funcs[61]?=Ξ Tryz.f61:=by kernel_rfl
@[simp] theorem call61(args:Array Ψ)(w:Θ):(Ω 61 args).run prog w=.ok (.enter 61 args) w:=by kernel_rfl
@[simp] theorem func62:prog.funcs[62]?=Ξ Tryz.f62:=by kernel_rfl
@[simp] theorem call62(args:Array Ψ)(w:Θ):(Ω 62 args).run prog w=.ok (.enter 62 args) w:=by kernel_rfl
@[simp] theorem func64:prog.funcs[64]?=Ξ Tryz.f64:=by kernel_rfl
@[simp] theorem call64(args:Array Ψ)(w:Θ):(Ω 64 args).run prog w=.ok (.enter 64 args) w:=by kernel_rfl
@[simp] theorem func78:prog.funcs[78]?=Ξ Tryz.f78:=by kernel_rfl
@[simp] theorem call78(args:Array Ψ)(w:Θ):(Ω 78 args).run prog w=.ok (.enter 78 args) w:=by kernel_rfl
@[simp] theorem func80:prog.funcs[80]?=Ξ Tryz.f80:=by kernel_rfl
@[simp] theorem call80(args:Array Ψ)(w:Θ):(Ω 80 args).run prog w=.ok (.enter 80 args) w:=by kernel_rfl
@[simp] theorem func81:prog.funcs[81]?=Ξ Tryz.f81:=by kernel_rfl
@[simp] theorem call81(args:Array Ψ)(w:Θ):(Ω 81 args).run prog w=.ok (.enter 81 args) w:=by kernel_rfl
@[simp] theorem func82:prog.funcs[82]?=Ξ Tryz.f82:=by kernel_rfl
@[simp] theorem call82(args:Array Ψ)(w:Θ):(Ω 82 args).run prog w=.ok (.enter 82 args) w:=by kernel_rfl
@[simp] theorem func83:prog.funcs[83]?=Ξ Tryz.f83:=by kernel_rfl
@[simp] theorem call83(args:Array Ψ)(w:Θ):(Ω 83 args).run prog w=.ok (.enter 83 args) w:=by kernel_rfl
@[simp] theorem func84:prog.funcs[84]?=Ξ Tryz.f84:=by kernel_rfl
@[simp] theorem call84(args:Array Ψ)(w:Θ):(Ω 84 args).run prog w=.ok (.enter 84 args) w:=by kernel_rfl
@[simp] theorem func87:prog.funcs[87]?=Ξ Tryz.f87:=by kernel_rfl
@[simp] theorem call87(args:Array Ψ)(w:Θ):(Ω 87 args).run prog w=.ok (.enter 87 args) w:=by kernel_rfl
@[simp] theorem func92:prog.funcs[92]?=Ξ Tryz.f92:=by kernel_rfl
@[simp] theorem call92(args:Array Ψ)(w:Θ):(Ω 92 args).run prog w=.ok (.enter 92 args) w:=by kernel_rfl
@[simp] theorem func93:prog.funcs[93]?=Ξ Tryz.f93:=by kernel_rfl
@[simp] theorem call93(args:Array Ψ)(w:Θ):(Ω 93 args).run prog w=.ok (.enter 93 args) w:=by kernel_rfl
@[simp] theorem func94:prog.funcs[94]?=Ξ Tryz.f94:=by kernel_rfl
@[simp] theorem call94(args:Array Ψ)(w:Θ):(Ω 94 args).run prog w=.ok (.enter 94 args) w:=by kernel_rfl
@[simp] theorem func103:prog.funcs[103]?=Ξ Tryz.f103:=by kernel_rfl
@[simp] theorem call103(args:Array Ψ)(w:Θ):(Ω 103 args).run prog w=.ok (.enter 103 args) w:=by kernel_rfl
@[simp] theorem func105:prog.funcs[105]?=Ξ Tryz.f105:=by kernel_rfl
@[simp] theorem call105(args:Array Ψ)(w:Θ):(Ω 105 args).run prog w=.ok (.enter 105 args) w:=by kernel_rfl
@[simp] theorem func106:prog.funcs[106]?=Ξ Tryz.f106:=by kernel_rfl
@[simp] theorem call106(args:Array Ψ)(w:Θ):(Ω 106 args).run prog w=.ok (.enter 106 args) w:=by kernel_rfl
@[simp] theorem func107:prog.funcs[107]?=Ξ Tryz.f107:=by kernel_rfl
@[simp] theorem call107(args:Array Ψ)(w:Θ):(Ω 107 args).run prog w=.ok (.enter 107 args) w:=by kernel_rfl
@[simp] theorem func109:prog.funcs[109]?=Ξ Tryz.f109:=by kernel_rfl
@[simp] theorem call109(args:Array Ψ)(w:Θ):(Ω 109 args).run prog w=.ok (.enter 109 args) w:=by kernel_rfl
@[simp] theorem func110:prog.funcs[110]?=Ξ Tryz.f110:=by kernel_rfl
@[simp] theorem call110(args:Array Ψ)(w:Θ):(Ω 110 args).run prog w=.ok (.enter 110 args) w:=by kernel_rfl
@[simp] theorem func118:prog.funcs[118]?=Ξ Tryz.f118:=by kernel_rfl
@[simp] theorem call118(args:Array Ψ)(w:Θ):(Ω 118 args).run prog w=.ok (.enter 118 args) w:=by kernel_rfl
@[simp] theorem func119:prog.funcs[119]?=Ξ Tryz.f119:=by kernel_rfl
@[simp] theorem call119(args:Array Ψ)(w:Θ):(Ω 119 args).run prog w=.ok (.enter 119 args) w:=by kernel_rfl
@[simp] theorem func121:prog.funcs[121]?=Ξ Tryz.f121:=by kernel_rfl
@[simp] theorem call121(args:Array Ψ)(w:Θ):(Ω 121 args).run prog w=.ok (.enter 121 args) w:=by kernel_rfl
@[simp] theorem func122:prog.funcs[122]?=Ξ Tryz.f122:=by kernel_rfl
@[simp] theorem call122(args:Array Ψ)(w:Θ):(Ω 122 args).run prog w=.ok (.enter 122 args) w:=by kernel_rfl
@[simp] theorem func124:prog.funcs[124]?=Ξ Tryz.f124:=by kernel_rfl
@[simp] theorem call124(args:Array Ψ)(w:Θ):(Ω 124 args).run prog w=.ok (.enter 124 args) w:=by kernel_rfl
@[simp] theorem func125:prog.funcs[125]?=Ξ Tryz.f125:=by kernel_rfl
@[simp] theorem call125(args:Array Ψ)(w:Θ):(Ω 125 args).run prog w=.ok (.enter 125 args) w:=by kernel_rfl
@[simp] theorem func132:prog.funcs[132]?=Ξ Tryz.f132:=by kernel_rfl
@[simp] theorem call132(args:Array Ψ)(w:Θ):(Ω 132 args).run prog w=.ok (.enter 132 args) w:=by kernel_rfl
@[simp] theorem func143:prog.funcs[143]?=Ξ Tryz.f143:=by kernel_rfl
@[simp] theorem call143(args:Array Ψ)(w:Θ):(Ω 143 args).run prog w=.ok (.enter 143 args) w:=by kernel_rfl
@[simp] theorem func144:prog.funcs[144]?=Ξ Tryz.f144:=by kernel_rfl
@[simp] theorem call144(args:Array Ψ)(w:Θ):(Ω 144 args).run prog w=.ok (.enter 144 args) w:=by kernel_rfl
@[simp] theorem func146:prog.funcs[146]?=Ξ Tryz.f146:=by kernel_rfl
@[simp] theorem call146(args:Array Ψ)(w:Θ):(Ω 146 args).run prog w=.ok (.enter 146 args) w:=by kernel_rfl
@[simp] theorem func147:prog.funcs[147]?=Ξ Tryz.f147:=by kernel_rfl
@[simp] theorem call147(args:Array Ψ)(w:Θ):(Ω 147 args).run prog w=.ok (.enter 147 args) w:=by kernel_rfl
@[simp] theorem func148:prog.funcs[148]?=Ξ Tryz.f148:=by kernel_rfl
@[simp] theorem call148(args:Array Ψ)(w:Θ):(Ω 148 args).run prog w=.ok (.enter 148 args) w:=by kernel_rfl
@[simp] theorem func149:prog.funcs[149]?=Ξ Tryz.f149:=by kernel_rfl
@[simp] theorem call149(args:Array Ψ)(w:Θ):(Ω 149 args).run prog w=.ok (.enter 149 args) w:=by kernel_rfl
@[simp] theorem func150:prog.funcs[150]?=Ξ Tryz.f150:=by kernel_rfl
@[simp] theorem call150(args:Array Ψ)(w:Θ):(Ω 150 args).run prog w=.ok (.enter 150 args) w:=by kernel_rfl
@[simp] theorem func151:prog.funcs[151]?=Ξ Tryz.f151:=by kernel_rfl
@[simp] theorem call151(args:Array Ψ)(w:Θ):(Ω 151 args).run prog w=.ok (.enter 151 args) w:=by kernel_rfl
@[simp] theorem func153:prog.funcs[153]?=Ξ Tryz.f153:=by kernel_rfl
@[simp] theorem call153(args:Array Ψ)(w:Θ):(Ω 153 args).run prog w=.ok (.enter 153 args) w:=by kernel_rfl
@[simp] theorem func154:prog.funcs[154]?=Ξ Tryz.f154:=by kernel_rfl
@[simp] theorem call154(args:Array Ψ)(w:Θ):(Ω 154 args).run prog w=.ok (.enter 154 args) w:=by kernel_rfl
@[simp] theorem func167:prog.funcs[167]?=Ξ Tryz.f167:=by kernel_rfl
@[simp] theorem call167(args:Array Ψ)(w:Θ):(Ω 167 args).run prog w=.ok (.enter 167 args) w:=by kernel_rfl
@[simp] theorem func168:prog.funcs[168]?=Ξ Tryz.f168:=by kernel_rfl
@[simp] theorem call168(args:Array Ψ)(w:Θ):(Ω 168 args).run prog w=.ok (.enter 168 args) w:=by kernel_rfl
@[simp] theorem func169:prog.funcs[169]?=Ξ Tryz.f169:=by kernel_rfl
@[simp] theorem call169(args:Array Ψ)(w:Θ):(Ω 169 args).run prog w=.ok (.enter 169 args) w:=by kernel_rfl
@[simp] theorem func170:prog.funcs[170]?=Ξ Tryz.f170:=by kernel_rfl
@[simp] theorem call170(args:Array Ψ)(w:Θ):(Ω 170 args).run prog w=.ok (.enter 170 args) w:=by kernel_rfl
@[simp] theorem func171:prog.funcs[171]?=Ξ Tryz.f171:=by kernel_rfl
@[simp] theorem call171(args:Array Ψ)(w:Θ):(Ω 171 args).run prog w=.ok (.enter 171 args) w:=by kernel_rfl
@[simp] theorem func173:prog.funcs[173]?=Ξ Tryz.f173:=by kernel_rfl
@[simp] theorem call173(args:Array Ψ)(w:Θ):(Ω 173 args).run prog w=.ok (.enter 173 args) w:=by kernel_rfl
@[simp] theorem func174:prog.funcs[174]?=Ξ Tryz.f174:=by kernel_rfl
@[simp] theorem call174(args:Array Ψ)(w:Θ):(Ω 174 args).run prog w=.ok (.enter 174 args) w:=by kernel_rfl
@[simp] theorem func175:prog.funcs[175]?=Ξ Tryz.f175:=by kernel_rfl
@[simp] theorem call175(args:Array Ψ)(w:Θ):(Ω 175 args).run prog w=.ok (.enter 175 args) w:=by kernel_rfl
@[simp] theorem func176:prog.funcs[176]?=Ξ Tryz.f176:=by kernel_rfl
@[simp] theorem call176(args:Array Ψ)(w:Θ):(Ω 176 args).run prog w=.ok (.enter 176 args) w:=by kernel_rfl
@[simp] theorem func179:prog.funcs[179]?=Ξ Tryz.f179:=by kernel_rfl
@[simp] theorem call179(args:Array Ψ)(w:Θ):(Ω 179 args).run prog w=.ok (.enter 179 args) w:=by kernel_rfl
@[simp] theorem func180:prog.funcs[180]?=Ξ Tryz.f180:=by kernel_rfl
@[simp] theorem call180(args:Array Ψ)(w:Θ):(Ω 180 args).run prog w=.ok (.enter 180 args) w:=by kernel_rfl
@[simp] theorem func181:prog.funcs[181]?=Ξ Tryz.f181:=by kernel_rfl
@[simp] theorem call181(args:Array Ψ)(w:Θ):(Ω 181 args).run prog w=.ok (.enter 181 args) w:=by kernel_rfl
@[simp] theorem func190:prog.funcs[190]?=Ξ Tryz.f190:=by kernel_rfl
@[simp] theorem call190(args:Array Ψ)(w:Θ):(Ω 190 args).run prog w=.ok (.enter 190 args) w:=by kernel_rfl
@[simp] theorem func191:prog.funcs[191]?=Ξ Tryz.f191:=by kernel_rfl
@[simp] theorem call191(args:Array Ψ)(w:Θ):(Ω 191 args).run prog w=.ok (.enter 191 args) w:=by kernel_rfl
@[simp] theorem func195:prog.funcs[195]?=Ξ Tryz.f195:=by kernel_rfl
@[simp] theorem call195(args:Array Ψ)(w:Θ):(Ω 195 args).run prog w=.ok (.enter 195 args) w:=by kernel_rfl
@[simp] theorem func196:prog.funcs[196]?=Ξ Tryz.f196:=by kernel_rfl
@[simp] theorem call196(args:Array Ψ)(w:Θ):(Ω 196 args).run prog w=.ok (.enter 196 args) w:=by kernel_rfl
@[simp] theorem func197:prog.funcs[197]?=Ξ Tryz.f197:=by kernel_rfl
@[simp] theorem call197(args:Array Ψ)(w:Θ):(Ω 197 args).run prog w=.ok (.enter 197 args) w:=by kernel_rfl
@[simp] theorem func198:prog.funcs[198]?=Ξ Tryz.f198:=by kernel_rfl
@[simp] theorem call198(args:Array Ψ)(w:Θ):(Ω 198 args).run prog w=.ok (.enter 198 args) w:=by kernel_rfl
@[simp] theorem func199:prog.funcs[199]?=Ξ Tryz.f199:=by kernel_rfl
@[simp] theorem call199(args:Array Ψ)(w:Θ):(Ω 199 args).run prog w=.ok (.enter 199 args) w:=by kernel_rfl
@[simp] theorem func200:prog.funcs[200]?=Ξ Tryz.f200:=by kernel_rfl
@[simp] theorem call200(args:Array Ψ)(w:Θ):(Ω 200 args).run prog w=.ok (.enter 200 args) w:=by kernel_rfl
@[simp] theorem func201:prog.funcs[201]?=Ξ Tryz.f201:=by kernel_rfl
@[simp] theorem call201(args:Array Ψ)(w:Θ):(Ω 201 args).run prog w=.ok (.enter 201 args) w:=by kernel_rfl
@[simp] theorem func202:prog.funcs[202]?=Ξ Tryz.f202:=by kernel_rfl
@[simp] theorem call202(args:Array Ψ)(w:Θ):(Ω 202 args).run prog w=.ok (.enter 202 args) w:=by kernel_rfl
@[simp] theorem func204:prog.funcs[204]?=Ξ Tryz.f204:=by kernel_rfl
@[simp] theorem call204(args:Array Ψ)(w:Θ):(Ω 204 args).run prog w=.ok (.enter 204 args) w:=by kernel_rfl
@[simp] theorem func208:prog.funcs[208]?=Ξ Tryz.f208:=by kernel_rfl
@[simp] theorem call208(args:Array Ψ)(w:Θ):(Ω 208 args).run prog w=.ok (.enter 208 args) w:=by kernel_rfl
@[simp] theorem func217:prog.funcs[217]?=Ξ Tryz.f217:=by kernel_rfl
@[simp] theorem call217(args:Array Ψ)(w:Θ):(Ω 217 args).run prog w=.ok (.enter 217 args) w:=by kernel_rfl
@[simp] theorem func218:prog.funcs[218]?=Ξ Tryz.f218:=by kernel_rfl
@[simp] theorem call218(args:Array Ψ)(w:Θ):(Ω 218 args).run prog w=.ok (.enter 218 args) w:=by kernel_rfl
@[simp] theorem func219:prog.funcs[219]?=Ξ Tryz.f219:=by kernel_rfl
@[simp] theorem call219(args:Array Ψ)(w:Θ):(Ω 219 args).run prog w=.ok (.enter 219 args) w:=by kernel_rfl
@[simp] theorem func220:prog.funcs[220]?=Ξ Tryz.f220:=by kernel_rfl
@[simp] theorem call220(args:Array Ψ)(w:Θ):(Ω 220 args).run prog w=.ok (.enter 220 args) w:=by kernel_rfl
@[simp] theorem func221:prog.funcs[221]?=Ξ Tryz.f221:=by kernel_rfl
@[simp] theorem call221(args:Array Ψ)(w:Θ):(Ω 221 args).run prog w=.ok (.enter 221 args) w:=by kernel_rfl
@[simp] theorem func222:prog.funcs[222]?=Ξ Tryz.f222:=by kernel_rfl
@[simp] theorem call222(args:Array Ψ)(w:Θ):(Ω 222 args).run prog w=.ok (.enter 222 args) w:=by kernel_rfl
@[simp] theorem func226:prog.funcs[226]?=Ξ Tryz.f226:=by kernel_rfl
@[simp] theorem call226(args:Array Ψ)(w:Θ):(Ω 226 args).run prog w=.ok (.enter 226 args) w:=by kernel_rfl
@[simp] theorem func227:prog.funcs[227]?=Ξ Tryz.f227:=by kernel_rfl
@[simp] theorem call227(args:Array Ψ)(w:Θ):(Ω 227 args).run prog w=.ok (.enter 227 args) w:=by kernel_rfl
@[simp] theorem func231:prog.funcs[231]?=Ξ Tryz.f231:=by kernel_rfl
@[simp] theorem func232:prog.funcs[232]?=Ξ Tryz.f232:=by kernel_rfl
@[simp] theorem call232(args:Array Ψ)(w:Θ):(Ω 232 args).run prog w=.ok (.enter 232 args) w:=by kernel_rfl
@[simp] theorem func233:prog.funcs[233]?=Ξ Tryz.f233:=by kernel_rfl
@[simp] theorem call233(args:Array Ψ)(w:Θ):(Ω 233 args).run prog w=.ok (.enter 233 args) w:=by kernel_rfl
@[simp] theorem func234:prog.funcs[234]?=Ξ Tryz.f234:=by kernel_rfl
@[simp] theorem call234(args:Array Ψ)(w:Θ):(Ω 234 args).run prog w=.ok (.enter 234 args) w:=by kernel_rfl
@[simp] theorem func257:prog.funcs[257]?=Ξ Tryz.f257:=by kernel_rfl
@[simp] theorem call257(args:Array Ψ)(w:Θ):(Ω 257 args).run prog w=.ok (.enter 257 args) w:=by kernel_rfl
@[simp] theorem func258:prog.funcs[258]?=Ξ Tryz.f258:=by kernel_rfl
@[simp] theorem call258(args:Array Ψ)(w:Θ):(Ω 258 args).run prog w=.ok (.enter 258 args) w:=by kernel_rfl
@[simp] theorem func259:prog.funcs[259]?=Ξ Tryz.f259:=by kernel_rfl
@[simp] theorem call259(args:Array Ψ)(w:Θ):(Ω 259 args).run prog w=.ok (.enter 259 args) w:=by kernel_rfl
@[simp] theorem func260:prog.funcs[260]?=Ξ Tryz.f260:=by kernel_rfl
@[simp] theorem call260(args:Array Ψ)(w:Θ):(Ω 260 args).run prog w=.ok (.enter 260 args) w:=by kernel_rfl
@[simp] theorem func261:prog.funcs[261]?=Ξ Tryz.f261:=by kernel_rfl
@[simp] theorem call261(args:Array Ψ)(w:Θ):(Ω 261 args).run prog w=.ok (.enter 261 args) w:=by kernel_rfl
@[simp] theorem func262:prog.funcs[262]?=Ξ Tryz.f262:=by kernel_rfl
@[simp] theorem call262(args:Array Ψ)(w:Θ):(Ω 262 args).run prog w=.ok (.enter 262 args) w:=by kernel_rfl
@[simp] theorem func276:prog.funcs[276]?=Ξ Tryz.f276:=by kernel_rfl
@[simp] theorem func277:prog.funcs[277]?=Ξ Tryz.f277:=by kernel_rfl
@[simp] theorem call277(args:Array Ψ)(w:Θ):(Ω 277 args).run prog w=.ok (.enter 277 args) w:=by kernel_rfl
@[simp] theorem func306:prog.funcs[306]?=Ξ Tryz.f306:=by kernel_rfl
@[simp] theorem call306(args:Array Ψ)(w:Θ):(Ω 306 args).run prog w=.ok (.enter 306 args) w:=by kernel_rfl
@[simp] theorem func307:prog.funcs[307]?=Ξ Tryz.f307:=by kernel_rfl
@[simp] theorem call307(args:Array Ψ)(w:Θ):(Ω 307 args).run prog w=.ok (.enter 307 args) w:=by kernel_rfl
@[simp] theorem func309:prog.funcs[309]?=Ξ Tryz.f309:=by kernel_rfl
@[simp] theorem call309(args:Array Ψ)(w:Θ):(Ω 309 args).run prog w=.ok (.enter 309 args) w:=by kernel_rfl
@[simp] theorem func310:prog.funcs[310]?=Ξ Tryz.f310:=by kernel_rfl
@[simp] theorem call310(args:Array Ψ)(w:Θ):(Ω 310 args).run prog w=.ok (.enter 310 args) w:=by kernel_rfl
@[simp] theorem func316:prog.funcs[316]?=Ξ Tryz.f316:=by kernel_rfl
@[simp] theorem call316(args:Array Ψ)(w:Θ):(Ω 316 args).run prog w=.ok (.enter 316 args) w:=by kernel_rfl
@[simp] theorem func317:prog.funcs[317]?=Ξ Tryz.f317:=by kernel_rfl
@[simp] theorem call317(args:Array Ψ)(w:Θ):(Ω 317 args).run prog w=.ok (.enter 317 args) w:=by kernel_rfl
@[simp] theorem func318:prog.funcs[318]?=Ξ Tryz.f318:=by kernel_rfl
@[simp] theorem call318(args:Array Ψ)(w:Θ):(Ω 318 args).run prog w=.ok (.enter 318 args) w:=by kernel_rfl
@[simp] theorem func319:prog.funcs[319]?=Ξ Tryz.f319:=by kernel_rfl
@[simp] theorem call319(args:Array Ψ)(w:Θ):(Ω 319 args).run prog w=.ok (.enter 319 args) w:=by kernel_rfl
@[simp] theorem func320:prog.funcs[320]?=Ξ Tryz.f320:=by kernel_rfl
@[simp] theorem call320(args:Array Ψ)(w:Θ):(Ω 320 args).run prog w=.ok (.enter 320 args) w:=by kernel_rfl
@[simp] theorem func321:prog.funcs[321]?=Ξ Tryz.f321:=by kernel_rfl
@[simp] theorem func322:prog.funcs[322]?=Ξ Tryz.f322:=by kernel_rfl
@[simp] theorem call322(args:Array Ψ)(w:Θ):(Ω 322 args).run prog w=.ok (.enter 322 args) w:=by kernel_rfl
@[simp] theorem func323:prog.funcs[323]?=Ξ Tryz.f323:=by kernel_rfl
@[simp] theorem call323(args:Array Ψ)(w:Θ):(Ω 323 args).run prog w=.ok (.enter 323 args) w:=by kernel_rfl
@[simp] theorem func324:prog.funcs[324]?=Ξ Tryz.f324:=by kernel_rfl
@[simp] theorem func325:prog.funcs[325]?=Ξ Tryz.f325:=by kernel_rfl
@[simp] theorem call325(args:Array Ψ)(w:Θ):(Ω 325 args).run prog w=.ok (.enter 325 args) w:=by kernel_rfl
@[simp] theorem func192:prog.funcs[192]?=Ξ Tryz.f192:=by kernel_rfl
@[simp] theorem func193:prog.funcs[193]?=Ξ Tryz.f193:=by kernel_rfl
@[simp] theorem func194:prog.funcs[194]?=Ξ Tryz.f194:=by kernel_rfl
@[simp] theorem func228:prog.funcs[228]?=Ξ Tryz.f228:=by kernel_rfl
@[simp] theorem func229:prog.funcs[229]?=Ξ Tryz.f229:=by kernel_rfl
@[simp] theorem func230:prog.funcs[230]?=Ξ Tryz.f230:=by kernel_rfl
@[simp] theorem func302:prog.funcs[302]?=Ξ Tryz.f302:=by kernel_rfl
@[simp] theorem func335:prog.funcs[335]?=Ξ Tryz.f335:=by kernel_rfl
@[simp] theorem func337:prog.funcs[337]?=Ξ Tryz.f337:=by kernel_rfl
@[simp] theorem func338:prog.funcs[338]?=Ξ Tryz.f338:=by kernel_rfl
end
end Go.Proofs.aD
namespace Go.Proofs.YtbnmpafbfoaggaaGreatDoor
namespace Md
abbrev HV:=Int×Int
abbrev HC:=Int×List HV
structure GH where
 new:List HC
 old:List HC
 roots:List HV
 aA:List HV
 done:List HV
 marked:List Int
 deriving DecidableEq
structure PH where
 cells:List HC
 roots:List HV
 aA:List Int
 done:List Int
 deriving DecidableEq
def co(v:HV):Bool:=v.1==3||v.1==4
def dy(v:HV):Bool:=v.1==3
def cp(bw:Int)(v:HV):HV:=if v.1=3 then(1,v.2+bw)else if v.1=4 then(1,v.2)else v
def Bz(bw:Int)(c:HC):HC:=(c.1,c.2.map (cp bw))
def plain(g:GH):PH:=
 let o:Int:=g.old.length
 ⟨(g.old++g.new).map (Bz o),g.roots.map (cp o),(g.aA.map (cp o)).map (·.2),(g.done.map (cp o)).map (·.2)⟩
def ed(bw:Int)(v:HV):HV:=if v.1=1 then(if v.2<bw then(4,v.2)else(3,v.2-bw))else v
def qO(bw:Int)(c:HC):HC:=(c.1,c.2.map (ed bw))
def Ij(h:PH)(bw:Nat):GH:=
 let o:Int:=bw
 ⟨(h.cells.drop bw).map (qO o),(h.cells.take bw).map (qO o),h.roots.map (ed o),(h.aA.map fun n=>((1,n):HV)).map (ed o),(h.done.map fun n=>((1,n):HV)).map (ed o),[]⟩
def cU:List Int->Int
 |[]=>0
 |e::l=>if e=0 then cU l else e
def eO(g:GH)(v:HV):Int:=if v.2<0\/(if v.1=3 then(g.new.length:Int)else g.old.length)<=v.2 then 9 else 0
def mh(g:GH)(v:HV):Int:=
 if v.1=0 then(if v.2< -99\/99<v.2 then 13 else 0)
 else if v.1=2 then(if v.2=0 then 0 else 13)
 else if v.1=3\/v.1=4 then eO g v else 4
def zj(g:GH)(c:HC):Int:=
 if c.1<0\/2<c.1 then 4
 else if c.2.length<(if c.1=0 then 0 else if c.1=1 then 1 else 2)then 5
 else if(if c.1=0 then 4 else if c.1=1 then 1 else 2)<c.2.length then 6
 else cU (c.2.map (mh g))
def jt(g:GH)(l:List Int)(i:Nat):Int:=
 let n:=l.getD i 0
 if n<0\/(g.old.length:Int)<=n then 9 else if n<=(if i=0 then-1 else l.getD (i-1) 0)then 14 else 0
def jW(c:HC):Bool:=c.2.any dy
def ju(g:GH):List Int:=(((List.range g.old.length).filter fun i=>jW (g.old.getD i (0,[]))).map fun(i:Nat)=>(i:Int))
def meet(order:List HV)(v:HV):List HV:=if order.contains v then order else order++[v]
def visit(jw:HV->Bool)(order l:List HV):List HV:=l.foldl (fun o v=>if jw v then meet o v else o) order
def cellAt(g:GH)(v:HV):HC:=(if v.1=3 then g.new else g.old).getD v.2.toNat (0,[])
def Dm(g:GH)(jw:HV->Bool):Nat->Nat->List HV->List HV
 |0,_,o=>o
 |f+1,k,o=>match o[k]? with
  |none=>o
  |some v=>Dm g jw f (k+1) (visit jw o (cellAt g v).2)
def cJ(g:GH):List HV:=g.roots++g.done++g.aA
def bV(g:GH)(jw:HV->Bool)(more:List HV):List HV:=Dm g jw (g.new.length+g.old.length+1) 0 (visit jw (visit jw [] (cJ g)) more)
def lr(order:List HV)(from_:Int)(v:HV):HV:=if order.contains v then(4,from_+(order.idxOf v:Nat))else v
def EN(order:List HV)(from_:Int)(c:HC):HC:=(c.1,c.2.map (lr order from_))
def move(g:GH)(order:List HV)(stay:Nat):GH:=⟨[],(g.old.take stay++order.map (cellAt g)).map (EN order stay),g.roots.map (lr order stay),g.aA.map (lr order stay),g.done.map (lr order stay),[]⟩
inductive uH where
 |minor|full|major
 deriving DecidableEq
def c6(g:GH):List HV:=g.marked.flatMap fun n=>(g.old.getD n.toNat (0,[])).2
def aeP(s:uH)(g:GH):List HV×Nat:=
 match s with
 |.minor=>(bV g dy (c6 g),g.old.length)
 |_=>(bV g co [],0)
def has(alive:List Int)(v:HV):Bool:=v.1≠1||alive.contains v.2
def keeps(c:HC)(alive:List Int):List HV:=
 if c.1=0 then c.2
 else if c.1=2 then(if has alive (c.2.getD 0 (0,0))then [c.2.getD 1 (0,0)]else [])
 else []
def nb(l:List Int)(n:Int):List Int:=if l.contains n then l else l++[n]
def Dn(l:List HV)(q met:List Int):List Int×List Int:=l.foldl (fun(x:List Int×List Int) v=>if v.1=1 then(if x.2.contains v.2 then x else(x.1++[v.2],x.2++[v.2]))else x) (q,met)
def VX(h:PH):List HV:=h.roots.filter (·.1==1)++h.done.map fun n=>(1,n)
def zk(h:PH):Nat->List Int->List Int->List Int->List Int
 |0,_,_,alive=>alive
 |f+1,q,met,alive=>match q with
  |[]=>alive
  |n::q=>
   let alive:=nb alive n
   let(q,met):=Dn (keeps (h.cells.getD n.toNat (0,[])) alive) q met
   zk h f q met alive
def BA(h:PH)(alive:List Int):List Int:=
 let(q,met):=Dn (VX h) [] []
 zk h (h.cells.length+1) q met alive
def zl(h:PH):Nat->List Int->List Int
 |0,alive=>alive
 |f+1,alive=>
  let next:=BA h alive
  if alive.length<next.length then zl h f next else next
def alive(h:PH):List Int:=zl h (h.cells.length+1) []
def zm(c:HC)(alive:List Int):Bool:=(c.1==1||c.1==2)&&!has alive (c.2.getD 0 (0,0))
def lu(h:PH):PH:=
 let a:=alive h
 let h1:PH:=⟨h.cells.map fun c=>if zm c a then(c.1,c.2.map fun _=>(2,0))else c,h.roots,h.aA.filter (a.contains ·),h.done++h.aA.filter (fun n=>!a.contains n)⟩
 let b:=alive h1
 {h1 with cells:=h1.cells.zipIdx.map fun x=>if b.contains (x.2:Int)then x.1 else(3,[])}
def Ik(h:PH)(n:Int):Int:=if n<0\/(h.cells.length:Int)<=n then 9 else if(h.cells.getD n.toNat (0,[])).1=3 then 10 else 0
def uI(h:PH)(v:HV):Int:=
 if v.1=0 then(if v.2< -99\/99<v.2 then 13 else 0)
 else if v.1=1 then Ik h v.2
 else if v.1=2 then(if v.2=0 then 0 else 13)else 4
def least(k:Int):Int:=if k=0 then 0 else if k=1 then 1 else if k=2 then 2 else 0
def tG(k:Int):Int:=if k=0 then 4 else if k=1 then 1 else if k=2 then 2 else 0
def iF(g:GH):GH:=Ij (lu (plain g)) g.old.length
def collect(s:uH)(g:GH):Option (Nat×GH):=
 let g:=if s=.major then iF g else g
 let(order,stay):=aeP s g
 if 32<stay+order.length then υ else Ξ (order.length,move g order stay)
def jw(g:GH):Option (List HV):=
 let(order,stay):=aeP .minor g
 if 32<stay+order.length then υ
 else Ξ ((List.range g.new.length).map fun(n:Nat)=>if order.contains ((3,(n:Int)):HV)then((4,(stay:Int)+(order.idxOf ((3,(n:Int)):HV):Nat)):HV)else(2,0))
structure RS where
 g:GH
 minors:Int:=0
 uJ:Int:=0
 fk:Int:=0
 dA:Int:=0
 deriving DecidableEq
structure Cmd where
 op:Int
 to_:Int:=0
 a:Int:=0
 b:Int:=0
 deriving DecidableEq
def counted(r:RS)(s:uH)(n:Nat)(g:GH):RS:=
 match s with
 |.minor=>{r with g,minors:=r.minors+1,dA:=r.dA+n}
 |.full=>{r with g,uJ:=r.uJ+1,dA:=r.dA+n}
 |.major=>{r with g,fk:=r.fk+1,dA:=r.dA+n}
def Q1(r:RS)(s:uH):Option RS:=(collect s r.g).map fun x=>counted r s x.1 x.2
def room(r:RS):Except Int RS:=
 if r.g.new.length<8 then .ok r
 else match Q1 r .minor with
  |some r=>.ok r
  |none=>match Q1 r .full with
   |some r=>.ok r
   |none=>.error 8
def rootOf(r:RS)(n:Int):Except Int HV:=if n<0\/(r.g.roots.length:Int)<=n then .error 9 else .ok (r.g.roots.getD n.toNat (0,0))
def el(r:RS)(n:Int)(v:HV):RS:={r with g:={r.g with roots:=r.g.roots.set n.toNat v}}
def made(r:RS)(kind bP:Int)(l:List Int):Except Int (HV×RS):=do
 for n in l do
  let _<-rootOf r n
 let r<-room r
 let eT:=List.replicate bP.toNat ((0,0):HV)++l.map fun n=>r.g.roots.getD n.toNat (0,0)
 let new:=r.g.new++[(kind,eT)]
 pure ((3,(new.length:Int) -1),{r with g:={r.g with new}})
def Do(n:Int):List Int->List Int
 |[]=>[n]
 |m::l=>if m<n then m::Do n l else if m=n then m::l else n::m::l
def BB(c:HC)(k:Nat)(v:HV):HC:=(c.1,c.2.set k v)
def put(r:RS)(to_:Int)(v:HV)(place:Int):Except Int RS:=
 let own:=r.g.roots.getD to_.toNat (0,0)
 if !co own||(cellAt r.g own).1≠0 then .error 4
 else
  let c:=cellAt r.g own
  if place<0\/(c.2.length:Int)<=place then .error 9
  else
   let c':=BB c place.toNat v
   let g:=if own.1=3 then {r.g with new:=r.g.new.set own.2.toNat c'}else {r.g with old:=r.g.old.set own.2.toNat c'}
   let g:=if own.1=4/\dy v then {g with marked:=Do own.2 g.marked}else g
   .ok {r with g}
def seen(g:GH)(v:HV):HV:=if co v then(1,10*(cellAt g v).1+(cellAt g v).2.length)else v
end Md
namespace Kn
open Go Go.RowKit Md
section
def Il(w:Θ)(b o:Nat)(l:List HV):Prop:=∀i k n,l[i]?=Ξ (k,n) ->w.cell? ⟨b,o+i*2,υ⟩=Ξ (ψ ω k)/\w.cell? ⟨b,o+i*2+1,υ⟩=Ξ (ψ ω n)
def Im(w:Θ)(b o:Nat)(l:List Int):Prop:=∀i n,l[i]?=Ξ n->w.cell? ⟨b,o+i,υ⟩=Ξ (ψ ω n)
def eI(w:Θ)(v:Ψ)(l:List HV):Prop:=∃a m,v=.slice a l.length m/\l.length<=m/\m<=9223372036854775807/\(0<l.length->∃b o,a=Ξ ⟨b,o,υ⟩/\b<w.heap.size/\Il w b o l)
def n9(w:Θ)(v:Ψ)(l:List Int):Prop:=∃a m,v=.slice a l.length m/\l.length<=m/\m<=9223372036854775807/\(0<l.length->∃b o,a=Ξ ⟨b,o,υ⟩/\b<w.heap.size/\Im w b o l)
def In(w:Θ)(b o:Nat)(l:List HC):Prop:=∀i k vs,l[i]?=Ξ (k,vs) ->w.cell? ⟨b,o+i*2,υ⟩=Ξ (ψ ω k)/\∃v,w.cell? ⟨b,o+i*2+1,υ⟩=Ξ v/\eI w v vs
def sa(w:Θ)(v:Ψ)(l:List HC):Prop:=∃a m,v=.slice a l.length m/\l.length<=m/\m<=9223372036854775807/\(0<l.length->∃b o,a=Ξ ⟨b,o,υ⟩/\b<w.heap.size/\In w b o l)
section
variable{w w':Θ}{v:Ψ}
theorem az{b o:Nat}{x:Ψ}(h:w.cell? ⟨b,o,υ⟩=Ξ x):b<w.heap.size:=by
 rcases Nat.lt_or_ge b w.heap.size with a|a
 ·exact a
 ·simp[World.cell?,Array.getElem?_eq_none a]at h
theorem Il.below(hk:χ w.heap.size w w'){b o:Nat}{l:List HV}(hb:b<w.heap.size)(h:Il w b o l):Il w' b o l:=fun i k n e=>by rw[hk.cell (p:=⟨b,_,υ⟩) hb,hk.cell (p:=⟨b,_,υ⟩) hb];exact h i k n e
theorem Im.below(hk:χ w.heap.size w w'){b o:Nat}{l:List Int}(hb:b<w.heap.size)(h:Im w b o l):Im w' b o l:=fun i n e=>by rw[hk.cell (p:=⟨b,_,υ⟩) hb];exact h i n e
theorem eI.below(hk:χ w.heap.size w w'){l:List HV}(h:eI w v l):eI w' v l:=by obtain⟨a,m,rfl,d,e,h⟩:=h;refine⟨a,m,rfl,d,e,fun h0=>?_⟩;obtain⟨b,o,rfl,hb,c⟩:=h h0;exact⟨b,o,rfl,Nat.lt_of_lt_of_le hb hk.size,c.below hk hb⟩
theorem n9.below(hk:χ w.heap.size w w'){l:List Int}(h:n9 w v l):n9 w' v l:=by obtain⟨a,m,rfl,d,e,h⟩:=h;refine⟨a,m,rfl,d,e,fun h0=>?_⟩;obtain⟨b,o,rfl,hb,c⟩:=h h0;exact⟨b,o,rfl,Nat.lt_of_lt_of_le hb hk.size,c.below hk hb⟩
theorem In.below(hk:χ w.heap.size w w'){b o:Nat}{l:List HC}(hb:b<w.heap.size)(h:In w b o l):In w' b o l:=fun i k a e=>by rw[hk.cell (p:=⟨b,_,υ⟩) hb,hk.cell (p:=⟨b,_,υ⟩) hb];obtain⟨d,v,c,f⟩:=h i k a e;exact⟨d,v,c,f.below hk⟩
theorem sa.below(hk:χ w.heap.size w w'){l:List HC}(h:sa w v l):sa w' v l:=by obtain⟨a,m,rfl,d,e,h⟩:=h;refine⟨a,m,rfl,d,e,fun h0=>?_⟩;obtain⟨b,o,rfl,hb,c⟩:=h h0;exact⟨b,o,rfl,Nat.lt_of_lt_of_le hb hk.size,c.below hk hb⟩
theorem hU(w:Θ)(B n:Nat):χ B w (w.drewN n):=⟨rfl,rfl,rfl,Nat.le_refl _,fun _ _=>rfl⟩
theorem af(w:Θ)(o:Obj):χ w.heap.size w (w.alloc o):=(Δ _ _).alloc (Nat.le_refl _) o
end
theorem ep{l:List HV}{k:Nat}(h:k<l.length):∃p q,l[k]?=Ξ (p,q):=⟨_,_,List.getElem?_eq_getElem h⟩
theorem cQ{l:List HC}{k:Nat}(h:k<l.length):∃p q,l[k]?=Ξ (p,q):=⟨_,_,List.getElem?_eq_getElem h⟩
theorem lw{l:List Int}{k:Nat}(h:k<l.length):∃p,l[k]?=Ξ p:=⟨_,List.getElem?_eq_getElem h⟩
theorem VY(p q p' q':Int)(w:Θ):(Op.equalIn 10000 50 (.agg #[ψ ω p,ψ ω q]) (.agg #[ψ ω p',ψ ω q'])).run aD.prog w=.ok (p==p'&&q==q') w:=by rw[run_equalIn_agg _ 9999 50 _ _ (by kernel_rfl) (by kernel_rfl)];simp[go_sem];by_cases h:p=p'<;>by_cases a:q=q'<;>simp[h,a,go_sem]
theorem aeQ(p q p' q':Int)(w:Θ):(binOp .neq 50 (.agg #[ψ ω p,ψ ω q]) (.agg #[ψ ω p',ψ ω q'])).run aD.prog w=.ok (.bool (!(p==p'&&q==q'))) w:=by rw[run_neq_struct,VY];rfl
theorem nc(p q:Int)(w:Θ):(binOp .neq 50 (.agg #[ψ ω p,ψ ω q]) (.agg #[ψ ω p,ψ ω q])).run aD.prog w=.ok (.bool φ) w:=by rw[aeQ];simp
end
theorem nd(w:Θ)(va vb:Ψ)(l:List HV)(hva:eI w va l)(hvb:eI w vb l):
 ο aD.prog 27 #[va,vb] w fun e w'=>e=.returned (.bool κ)/\∃n,w'=w.drewN n:=by
 obtain⟨a,m,rfl,j,h,c⟩:=hva;obtain⟨s,x,rfl,_,_,hb⟩:=hvb
 go_enter aD.func27,Tryz.ntmps27
 go_wp2
 go_loopw [5] (fun i wr=>∃k:Nat,k<=l.length/\i=ψ ω k/\∃n,wr=w.drewN n) (fun i _=>l.length-(intOf i).toNat)
 case atStart=>exact⟨0,Nat.zero_le _,rfl,0,rfl⟩
 case round=>
  obtain⟨k,o,rfl,n,rfl⟩:=hrel
  go_wp2
  ·have d:k<l.length:=by assumption
   obtain⟨v,r,rfl,_,c⟩:=c (by omega);obtain⟨u,t,rfl,_,hb⟩:=hb (by omega);obtain⟨p,q,e1⟩:=ep d;obtain⟨c1,c2⟩:=c k p q e1;obtain⟨c3,g⟩:=hb k p q e1;have b:=nc p q;clear c hb
   go_quiet (fail)
   clear b c1 c2 c3 g
   go_wp2
   exact⟨⟨k+1,by omega,by go_num,_,rfl⟩,by simp[intOf];omega⟩
  ·have f:¬k<l.length:=by assumption
   go_ret;exact⟨rfl,_,rfl⟩
theorem v8(w:Θ)(va vb:Ψ)(l:List Int)(hva:n9 w va l)(hvb:n9 w vb l):
 ο aD.prog 51 #[va,vb] w fun e w'=>e=.returned (.bool κ)/\∃n,w'=w.drewN n:=by
 obtain⟨a,m,rfl,h,f,b⟩:=hva;obtain⟨q,u,rfl,_,_,hb⟩:=hvb
 go_enter aD.func51,Tryz.ntmps51
 go_wp2
 go_loopw [5] (fun i wr=>∃k:Nat,k<=l.length/\i=ψ ω k/\∃n,wr=w.drewN n) (fun i _=>l.length-(intOf i).toNat)
 case atStart=>exact⟨0,Nat.zero_le _,rfl,0,rfl⟩
 case round=>
  obtain⟨k,j,rfl,n,rfl⟩:=hrel
  go_wp2
  ·have c:k<l.length:=by assumption
   obtain⟨t,o,rfl,_,b⟩:=b (by omega);obtain⟨s,r,rfl,_,hb⟩:=hb (by omega);obtain⟨p,e1⟩:=lw c;have c1:=b k p e1;have c3:=hb k p e1;have g:(p !=p)=φ:=by simp
   clear b hb
   go_quiet (fail)
   clear c1 c3
   go_wp2
   exact⟨⟨k+1,by omega,by go_num,_,rfl⟩,by simp[intOf];omega⟩
  ·have d:¬k<l.length:=by assumption
   go_ret;exact⟨rfl,_,rfl⟩
section
variable{w:Θ}
theorem uK{P:ZU}{f:FuncId}{args:Array Ψ}{a n:Nat}{v:Ψ}(h:ο P f args (w.drewN (a+n)) fun e w'=>e=.returned v/\∃m,w'=(w.drewN (a+n)).drewN m):
 ο P f args (w.drewN (a+n)) fun e w''=>e=.returned v/\∃m,w''=w.drewN (a+m):=
 h.mono fun _ _ ⟨b,m,c⟩=>⟨b,n+m,by rw[c,World.drewN_drewN,Nat.add_assoc]⟩
theorem eI.drewN{v:Ψ}{l:List HV}(h:eI w v l)(n:Nat):eI (w.drewN n) v l:=h.below (hU _ _ _)
theorem Dp(w:Θ)(va vb:Ψ)(l:List HC)(hva:sa w va l)(hvb:sa w vb l):
 ο aD.prog 87 #[va,vb] w fun e w'=>e=.returned (.bool κ)/\∃n,w'=w.drewN n:=by
 obtain⟨a,m,rfl,A,h,b⟩:=hva;obtain⟨u,z,rfl,_,_,hb⟩:=hvb
 go_enter aD.func87,Tryz.ntmps87
 go_wp2
 go_loopw [5] (fun i wr=>∃k:Nat,k<=l.length/\i=ψ ω k/\∃n,wr=w.drewN n) (fun i _=>l.length-(intOf i).toNat)
 case atStart=>exact⟨0,Nat.zero_le _,rfl,0,rfl⟩
 case round=>
  obtain⟨k,t,rfl,n,rfl⟩:=hrel
  go_wp2
  ·have c:k<l.length:=by assumption
   obtain⟨x,B,rfl,_,b⟩:=b (by omega);obtain⟨s,v,rfl,_,hb⟩:=hb (by omega);obtain⟨p,q,e1⟩:=cQ c;obtain⟨c1,v1,c2,f⟩:=b k p q e1;obtain⟨c3,v2,r,d⟩:=hb k p q e1;have y:(p !=p)=φ:=by simp
   have j:=Γ f;have o:=Γ d;clear b hb f d
   go_quiet ((go_at_call 27;exact uK (nd _ _ _ q (j.out.drewN _) (o.out.drewN _))))
   clear c1 c2 c3 r
   go_wp2
   exact⟨⟨k+1,by omega,by go_num,_,rfl⟩,by simp[intOf];omega⟩
  ·have g:¬k<l.length:=by assumption
   go_ret;exact⟨rfl,_,rfl⟩
theorem bl{B:Nat}{a:Θ}(h:χ B a w)(n:Nat):χ B a (w.drewN n):=⟨h.os,h.tape,h.output,h.size,h.block⟩
def GV(w:Θ)(v:Ψ)(g:GH):Prop:=∃n o r wi d m,v=.agg #[n,o,r,wi,d,m]/\sa w n g.new/\sa w o g.old/\eI w r g.roots/\eI w wi g.aA/\eI w d g.done/\n9 w m g.marked
def tH(w:Θ)(v:Ψ)(h:PH):Prop:=∃c r wi d,v=.agg #[c,r,wi,d]/\sa w c h.cells/\eI w r h.roots/\n9 w wi h.aA/\n9 w d h.done
theorem GV.below{w w':Θ}{v:Ψ}{g:GH}(hk:χ w.heap.size w w')(h:GV w v g):GV w' v g:=by obtain⟨n,o,r,a,d,m,rfl,f,c,j,e,i,b⟩:=h;exact⟨n,o,r,a,d,m,rfl,f.below hk,c.below hk,j.below hk,e.below hk,i.below hk,b.below hk⟩
theorem tH.below{w w':Θ}{v:Ψ}{g:PH}(hk:χ w.heap.size w w')(h:tH w v g):tH w' v g:=by obtain⟨c,r,a,d,rfl,f,b,i,e⟩:=h;exact⟨c,r,a,d,rfl,f.below hk,b.below hk,i.below hk,e.below hk⟩
theorem NU(w:Θ)(va vb:Ψ)(g:GH)(hva:GV w va g)(hvb:GV w vb g):
 ο aD.prog 26 #[va,vb] w fun e w'=>e=.returned (.bool κ)/\χ w.heap.size w w':=by
 obtain⟨n,o,r,K,d,m,rfl,k,h,s,j,l,t⟩:=hva;obtain⟨L,T,M,I,S,U,rfl,f,u,i,x,p,q⟩:=hvb;have v:∀c b:Obj,χ w.heap.size w ((w.alloc c).alloc b):=fun c b=>(af w c).alloc (by simp) b
 have a:=Γ v;clear v;have H:=Γ k;have J:=Γ h;have A:=Γ s;have B:=Γ j;have H5:=Γ l;have y:=Γ t;have C:=Γ f;have z:=Γ u;have E:=Γ i;have G:=Γ x;have F:=Γ p;have D:=Γ q;clear k h s j l t f u i x p q
 go_enter aD.func26,Tryz.ntmps26
 go_wp2_with fail
 refine(Dp _ _ _ g.new (H.out.below (a.out _ _)) (C.out.below (a.out _ _))).mono ?_;rintro e w' ⟨rfl,V,rfl⟩
 go_wp2_with fail
 refine(Dp _ _ _ g.old (J.out.below (bl (a.out _ _) _)) (z.out.below (bl (a.out _ _) _))).mono ?_;rintro e w' ⟨rfl,Q,rfl⟩
 go_wp2_with fail
 refine(nd _ _ _ g.roots (A.out.below (bl (a.out _ _) _)) (E.out.below (bl (a.out _ _) _))).mono ?_;rintro e w' ⟨rfl,O,rfl⟩
 go_wp2_with fail
 refine(nd _ _ _ g.aA (B.out.below (bl (a.out _ _) _)) (G.out.below (bl (a.out _ _) _))).mono ?_;rintro e w' ⟨rfl,P,rfl⟩
 go_wp2_with fail
 refine(nd _ _ _ g.done (H5.out.below (bl (a.out _ _) _)) (F.out.below (bl (a.out _ _) _))).mono ?_;rintro e w' ⟨rfl,N,rfl⟩
 go_wp2_with fail
 refine(v8 _ _ _ g.marked (y.out.below (bl (a.out _ _) _)) (D.out.below (bl (a.out _ _) _))).mono ?_;rintro e w' ⟨rfl,R,rfl⟩
 go_wp2
 go_ret;exact⟨rfl,bl (a.out _ _) _⟩
end
section
variable(w:Θ)(n:Int)
def eB(v:HV):Ψ:=.agg #[ψ ω v.1,ψ ω v.2]
def gK(e:Int):List PanicEntry:=[{v:=.iface 177 (.agg #[ψ ω e]),recovered:=φ}]
theorem aeR:ο aD.prog 56 #[ψ ω n] w fun e w'=>e=.returned (eB (0,n))/\χ w.heap.size w w':=by
 go_enter aD.func56,Tryz.ntmps56
 go_wp2
 exact μ (v:=eB (0,n)) (by simp[Z7,Tryz.results56,go_sem,eB]) rfl ⟨rfl,((Δ _ _).alloc (Nat.le_refl _) _)⟩
theorem NV:ο aD.prog 61 #[ψ ω n] w fun e w'=>e=.returned (eB (3,n))/\χ w.heap.size w w':=by
 go_enter aD.func61,Tryz.ntmps61
 go_wp2
 exact μ (v:=eB (3,n)) (by simp[Z7,Tryz.results61,go_sem,eB]) rfl ⟨rfl,((Δ _ _).alloc (Nat.le_refl _) _)⟩
theorem aeS:ο aD.prog 59 #[ψ ω n] w fun e w'=>e=.returned (eB (4,n))/\χ w.heap.size w w':=by
 go_enter aD.func59,Tryz.ntmps59
 go_wp2
 exact μ (v:=eB (4,n)) (by simp[Z7,Tryz.results59,go_sem,eB]) rfl ⟨rfl,((Δ _ _).alloc (Nat.le_refl _) _)⟩
theorem VZ:ο aD.prog 54 #[ψ ω n] w fun e w'=>e=.returned (eB (1,n))/\χ w.heap.size w w':=by
 go_enter aD.func54,Tryz.ntmps54
 go_wp2
 exact μ (v:=eB (1,n)) (by simp[Z7,Tryz.results54,go_sem,eB]) rfl ⟨rfl,((Δ _ _).alloc (Nat.le_refl _) _)⟩
theorem V0:ο aD.prog 58 #[] w fun e w'=>e=.returned (eB (2,0))/\χ w.heap.size w w':=by
 go_enter aD.func58,Tryz.ntmps58
 go_wp2
 exact μ (v:=eB (2,0)) (by simp[Z7,Tryz.results58,go_sem,eB]) rfl ⟨rfl,((Δ _ _).alloc (Nat.le_refl _) _)⟩
theorem aeT(v:Ψ)(a:Option ZD)(n m:Nat)(hv:v=.slice a n m):ο aD.prog 55 #[v] w fun e w'=>e=.returned (.agg #[ψ ω 0,v])/\χ w.heap.size w w':=by
 subst hv
 go_enter aD.func55,Tryz.ntmps55
 go_wp2
 exact μ (v:=.agg #[ψ ω 0,.slice a n m]) (by simp[Z7,Tryz.results55,go_sem]) rfl ⟨rfl,((Δ _ _).alloc (Nat.le_refl _) _)⟩
theorem cd(e:Int):ο aD.prog 84 #[.bool φ,ψ ω e] w fun r w'=>r=.returned (.tuple #[])/\w'=w:=by
 go_enter aD.func84,Tryz.ntmps84
 go_wp2
 go_end0;exact⟨rfl,rfl⟩
theorem eU(e:Int):ο aD.prog 84 #[.bool κ,ψ ω e] w fun r w'=>r=.panicked (gK e)/\w'=w:=by
 go_enter aD.func84,Tryz.ntmps84
 go_wp2
 exact⟨rfl,rfl,rfl⟩
end
section
variable(w:Θ)(v:HV)
theorem wd:ο aD.prog 151 #[eB v] w fun e w'=>e=.returned (.bool (dy v))/\χ w.heap.size w w':=by
 obtain⟨k,n⟩:=v;unfold eB dy
 go_enter aD.func151,Tryz.ntmps151
 go_wp2
 go_ret;exact⟨rfl,((Δ _ _).alloc (Nat.le_refl _) _)⟩
theorem sd:ο aD.prog 168 #[eB v] w fun e w'=>e=.returned (.bool (co v))/\χ w.heap.size w w':=by
 obtain⟨k,n⟩:=v;unfold eB co;by_cases h:k=3
 ·have a:(k==3)=κ:=by simp[h]
  simp only[a,Bool.true_or]
  go_enter aD.func168,Tryz.ntmps168
  go_wp2
  go_ret;exact⟨rfl,((Δ _ _).alloc (Nat.le_refl _) _)⟩
 ·have a:(k==3)=φ:=by simp[h]
  simp only[a,Bool.false_or]
  go_enter aD.func168,Tryz.ntmps168
  go_wp2
  go_ret;exact⟨rfl,((Δ _ _).alloc (Nat.le_refl _) _)⟩
def mi(w:Θ)(b:Nat)(g:GH):Prop:=∃n o r wi d m,w.cell? ⟨b,0,υ⟩=Ξ n/\w.cell? ⟨b,1,υ⟩=Ξ o/\w.cell? ⟨b,2,υ⟩=Ξ r/\w.cell? ⟨b,3,υ⟩=Ξ wi/\w.cell? ⟨b,4,υ⟩=Ξ d/\w.cell? ⟨b,5,υ⟩=Ξ m/\
 sa w n g.new/\sa w o g.old/\eI w r g.roots/\eI w wi g.aA/\eI w d g.done/\n9 w m g.marked
theorem mi.below{w w':Θ}{b:Nat}{g:GH}(hk:χ w.heap.size w w')(h:mi w b g):mi w' b g:=by
 obtain⟨n,o,r,a,d,m,c0,c1,c2,c3,q,l,i,e,k,f,j,c⟩:=h;have hb:=az c0;refine⟨n,o,r,a,d,m,?_,?_,?_,?_,?_,?_,i.below hk,e.below hk,k.below hk,f.below hk,j.below hk,c.below hk⟩
 all_goals rw[hk.cell (p:=⟨b,_,υ⟩) hb];assumption
def dZ(c:Int)(e:Ending):Prop:=if c=0 then e=.returned (.tuple #[])else e=.panicked (gK c)
theorem dZ.ok{c:Int}(h:c=0):dZ c (.returned (.tuple #[])):=by unfold dZ;rw[if_pos h]
theorem dZ.bad{c d:Int}(h:c=d)(hd:d≠0):dZ c (.panicked (gK d)):=by unfold dZ;subst h;rw[if_neg hd]
theorem we(b:Nat)(g:GH)(v:HV)(h:mi w b g):ο aD.prog 169 #[ZL (Ξ ⟨b,0,υ⟩),eB v] w fun e w'=>dZ (eO g v) e/\χ w.heap.size w w':=by
 obtain⟨n,o,r,i,d,m,c0,c1,_,_,_,_,⟨a1,m1,rfl,_,_,_⟩,⟨j,m2,rfl,_,_,_⟩,_⟩:=h;obtain⟨k,n⟩:=v;have hb:=az c0;unfold eB;by_cases a:k=3
 ·subst a;by_cases h0:n<0
  ·go_enter aD.func169,ε
   go_wp2_with fail
   refine(eU _ _).mono ?_;rintro e w' ⟨rfl,rfl⟩;exact⟨rfl,dZ.bad (by simp[eO,h0]) (by decide),((Δ _ _).alloc (Nat.le_refl _) _)⟩
  ·by_cases c:(g.new.length:Int)<=n
   ·go_enter aD.func169,ε
    go_wp2_with fail
    refine(eU _ _).mono ?_;rintro e w' ⟨rfl,rfl⟩;exact⟨rfl,dZ.bad (by simp[eO,c]) (by decide),((Δ _ _).alloc (Nat.le_refl _) _)⟩
   ·go_enter aD.func169,ε
    go_wp2_with fail
    refine(cd _ _).mono ?_;rintro e w' ⟨rfl,rfl⟩
    go_wp2
    go_end0;exact⟨dZ.ok (by simp[eO];omega),((Δ _ _).alloc (Nat.le_refl _) _)⟩
 ·have f:(k==3)=φ:=by simp[a]
  by_cases h0:n<0
  ·go_enter aD.func169,ε
   go_wp2_with fail
   refine(eU _ _).mono ?_;rintro e w' ⟨rfl,rfl⟩;exact⟨rfl,dZ.bad (by simp[eO,h0]) (by decide),((Δ _ _).alloc (Nat.le_refl _) _)⟩
  ·by_cases c:(g.old.length:Int)<=n
   ·go_enter aD.func169,ε
    go_wp2_with fail
    refine(eU _ _).mono ?_;rintro e w' ⟨rfl,rfl⟩;exact⟨rfl,dZ.bad (by simp[eO,c,a]) (by decide),((Δ _ _).alloc (Nat.le_refl _) _)⟩
   ·go_enter aD.func169,ε
    go_wp2_with fail
    refine(cd _ _).mono ?_;rintro e w' ⟨rfl,rfl⟩
    go_wp2
    go_end0;exact⟨dZ.ok (by simp[eO,a];omega),((Δ _ _).alloc (Nat.le_refl _) _)⟩
theorem Io(b:Nat)(g:GH)(v:HV)(h:mi w b g)(he:mh g v=0):ο aD.prog 167 #[ZL (Ξ ⟨b,0,υ⟩),eB v] w fun e w'=>e=.returned (.tuple #[])/\χ w.heap.size w w':=by
 obtain⟨k,n⟩:=v;have H:=Γ h;clear h;by_cases h0:k=0
 ·subst h0;have a:-99<=n/\n<=99:=by simp[mh]at he;omega
  obtain⟨a,c⟩:=a;clear he;unfold eB
  go_enter aD.func167,ZR
  go_wp2_with fail
  refine(cd _ _).mono ?_;rintro e w' ⟨rfl,rfl⟩
  go_wp2
  go_end0;exact⟨rfl,((Δ _ _).alloc (Nat.le_refl _) _)⟩
 ·by_cases c:k=2
  ·subst c;have a:n=0:=by simp[mh]at he;exact he
   subst a;clear he;unfold eB
   go_enter aD.func167,ZR
   go_wp2_with fail
   refine(cd _ _).mono ?_;rintro e w' ⟨rfl,rfl⟩
   go_wp2
   go_end0;exact⟨rfl,((Δ _ _).alloc (Nat.le_refl _) _)⟩
  ·by_cases f:k=3
   ·subst f;have a:eO g (3,n)=0:=by simpa[mh]using he
    have d:=Γ a;clear he a;unfold eB
    go_enter aD.func167,ZR
    go_wp2_with fail
    refine(we _ b g (3,n) (H.out.below (af _ _))).mono ?_;rintro e w' ⟨he,hw⟩;unfold dZ at he;rw[if_pos d.out]at he;subst he
    go_wp2
    go_end0;exact⟨rfl,(af _ _).trans (hw.mono (by simp))⟩
   ·have i:k=4:=by
     rcases Decidable.em (k=4)with h|h
     ·exact h
     ·simp[mh,h0,c,f,h]at he
    subst i;have a:eO g (4,n)=0:=by simpa[mh]using he
    have d:=Γ a;clear he a h0 c f;unfold eB
    go_enter aD.func167,ZR
    go_wp2_with fail
    refine(we _ b g (4,n) (H.out.below (af _ _))).mono ?_;rintro e w' ⟨he,hw⟩;unfold dZ at he;rw[if_pos d.out]at he;subst he
    go_wp2
    go_end0;exact⟨rfl,(af _ _).trans (hw.mono (by simp))⟩
end
section
def lU(v:HV):List Ψ:=[ψ ω v.1,ψ ω v.2]
def eP(n:Int):List Ψ:=[ψ ω n]
def dW(c:Int×Ψ):List Ψ:=[ψ ω c.1,c.2]
def OV(w:Θ)(B:Nat)(v:Ψ)(l:List HV):Prop:=w.ownsRow B 50 2 v l.length (l.flatMap lU)
def OI(w:Θ)(B:Nat)(v:Ψ)(l:List Int):Prop:=w.ownsRow B 3 1 v l.length (l.flatMap eP)
def OC(w:Θ)(B:Nat)(v:Ψ)(l:List (Int×Ψ)):Prop:=w.ownsRow B 76 2 v l.length (l.flatMap dW)
theorem nh:(aD.prog.info? 50).map (fun i=>(i.zero,i.size,i.bytes))=Ξ (Ξ (.agg #[ψ ω 0,ψ ω 0]),2,16):=by kernel_rfl
theorem Dq:(aD.prog.info? 3).map (fun i=>(i.zero,i.size,i.bytes))=Ξ (Ξ (ψ ω 0),1,8):=by kernel_rfl
theorem ni:(aD.prog.info? 76).map (fun i=>(i.zero,i.size,i.bytes))=Ξ (Ξ (.agg #[ψ ω 0,η υ 0 0]),2,32):=by kernel_rfl
theorem lx:aD.prog.underlying 23=Ξ (.slice 50):=by kernel_rfl
theorem se:aD.prog.underlying 24=Ξ (.slice 3):=by kernel_rfl
theorem mF:aD.prog.underlying 22=Ξ (.slice 76):=by kernel_rfl
theorem jx{α:Type}(f:α->List Ψ)(x y:α->Ψ)(hf:∀a,f a=[x a,y a]):∀(l:List α) (i:Nat) (a:α),l[i]?=Ξ a->(l.flatMap f)[i*2]?=Ξ (x a)/\(l.flatMap f)[i*2+1]?=Ξ (y a)
 |[],i,a,h=>by simp at h
 |b::l,0,a,h=>by simp at h;subst h;simp[hf]
 |b::l,i+1,a,h=>by have:=jx f x y hf l i a (by simpa using h);rw[List.flatMap_cons,hf,show(i+1)*2=i*2+1+1 by omega];simpa using this
theorem zn{α:Type}(f:α->List Ψ)(x:α->Ψ)(hf:∀a,f a=[x a]):∀(l:List α) (i:Nat) (a:α),l[i]?=Ξ a->(l.flatMap f)[i]?=Ξ (x a)
 |[],i,a,h=>by simp at h
 |b::l,0,a,h=>by simp at h;subst h;simp[hf]
 |b::l,i+1,a,h=>by have:=zn f x hf l i a (by simpa using h);rw[List.flatMap_cons,hf];simpa using this
theorem V1(l:List HV):∀u∈l.flatMap lU,u.oneCell'=κ:=by intro u b;obtain⟨a,_,h⟩:=List.mem_flatMap.1 b;simp[lU]at h;rcases h with rfl|rfl<;>rfl
theorem amT(l:List Int):∀u∈l.flatMap eP,u.oneCell'=κ:=by intro u b;obtain⟨a,_,h⟩:=List.mem_flatMap.1 b;simp[eP]at h;subst h;rfl
section
variable{w w':Θ}{B:Nat}{v:Ψ}
theorem aF{e:Z3}{size n:Nat}{xs:List Ψ}(h:w.ownsRow B e size v n xs):∃a m,v=.slice a n m/\n<=m/\m<=Z8/\(0<n->∃g,a=Ξ ⟨g,0,υ⟩/\B<=g/\g<w.heap.size/\v.ownBlock=Ξ g/\∀j u,xs[j]?=Ξ u->w.cell? ⟨g,j,υ⟩=Ξ u):=by
 have hc:=fun(g:Nat) (c:v.ownBlock=Ξ g)=>h.cells (g:=g) c
 have b:=h.lt;rcases h with⟨p,⟨rfl,rfl⟩|⟨g,i,d,rfl,l,c,o,f,hs,q⟩⟩
 ·exact⟨υ,0,rfl,Nat.le_refl _,by simp[Z8],fun h0=>absurd h0 (by omega)⟩
 ·refine⟨_,_,rfl,o,f,fun h0=>⟨g,rfl,l,(b g rfl).2,rfl,fun j u k=>?_⟩⟩;have:=hc g rfl j u k;rwa[show(⟨g,0,υ⟩:ZD).add j=⟨g,j,υ⟩ by unfold Z9;split<;>simp_all]at this
theorem OV.reads{l:List HV}(h:OV w B v l):eI w v l:=by obtain⟨a,m,rfl,c,b,f⟩:=aF h;refine⟨a,m,rfl,c,by unfold Z8 at b;exact b,fun h0=>?_⟩;obtain⟨g,rfl,_,d,_,hc⟩:=f h0;refine⟨g,0,rfl,d,fun i k n e=>?_⟩;obtain⟨e1,e2⟩:=jx lU (fun v=>ψ ω v.1) (fun v=>ψ ω v.2) (fun _=>rfl) l i (k,n) e;rw[Nat.zero_add];exact⟨hc _ _ e1,hc _ _ e2⟩
theorem OI.reads{l:List Int}(h:OI w B v l):n9 w v l:=by obtain⟨a,m,rfl,c,b,f⟩:=aF h;refine⟨a,m,rfl,c,by unfold Z8 at b;exact b,fun h0=>?_⟩;obtain⟨g,rfl,_,d,_,hc⟩:=f h0;refine⟨g,0,rfl,d,fun i n e=>?_⟩;have e1:=zn eP (fun n=>ψ ω n) (fun _=>rfl) l i n e;rw[Nat.zero_add];exact hc _ _ e1
def aY(w:Θ)(l:List (Int×Ψ))(cs:List HC):Prop:=l.length=cs.length/\∀(i:Nat) k v k' vs,l[i]?=Ξ (k,v) ->cs[i]?=Ξ (k',vs) ->k=k'/\eI w v vs
theorem aY.below{l:List (Int×Ψ)}{cs:List HC}(hk:χ w.heap.size w w')(h:aY w l cs):aY w' l cs:=⟨h.1,fun i k v a b e1 e2=>⟨(h.2 i k v a b e1 e2).1,(h.2 i k v a b e1 e2).2.below hk⟩⟩
theorem OC.reads{l:List (Int×Ψ)}{cs:List HC}(h:OC w B v l)(hc:aY w l cs):sa w v cs:=by
 obtain⟨a,m,rfl,d,c,f⟩:=aF h;rw[hc.1]at d f⊢;refine⟨a,m,rfl,d,by unfold Z8 at c;exact c,fun h0=>?_⟩;obtain⟨g,rfl,_,q,_,n⟩:=f h0;refine⟨g,0,rfl,q,fun i k o e=>?_⟩;have hi:i<l.length:=by rw[hc.1];exact(List.getElem?_eq_some_iff.1 e).1
 obtain⟨r,b,j⟩:∃k v,l[i]?=Ξ (k,v):=⟨_,_,List.getElem?_eq_getElem hi⟩;obtain⟨rfl,p⟩:=hc.2 i r b k o j e;obtain⟨e1,e2⟩:=jx dW (fun v=>ψ ω v.1) (fun v=>v.2) (fun _=>rfl) l i _ j;rw[Nat.zero_add];exact⟨n _ _ e1,b,n _ _ e2,p⟩
theorem OV.nil(w:Θ)(B:Nat):OV w B (η υ 0 0) []:=ZQ _ _ _ _
theorem OI.nil(w:Θ)(B:Nat):OI w B (η υ 0 0) []:=ZQ _ _ _ _
theorem OC.nil(w:Θ)(B:Nat):OC w B (η υ 0 0) []:=ZQ _ _ _ _
end
theorem aS{w w':Θ}{B:Nat}{e:Z3}{size n:Nat}{v:Ψ}{xs:List Ψ}(h:w.ownsRow B e size v n xs)(hk:∀g,v.ownBlock=Ξ g->w'.heap[g]?=w.heap[g]?):w'.ownsRow B e size v n xs:=by
 rcases h with⟨c,⟨rfl,rfl⟩|⟨g,b,a,rfl,f,i,d⟩⟩
 ·exact⟨c,.inl ⟨rfl,rfl⟩⟩
 ·exact⟨c,.inr ⟨g,b,a,rfl,f,(hk g rfl).trans i,d⟩⟩
theorem jy{w w':Θ}{B:Nat}{e:Z3}{size n:Nat}{v:Ψ}{xs:List Ψ}(h:w.ownsRow B e size v n xs)(hk:χ w.heap.size w w'):w'.ownsRow B e size v n xs:=aS h fun g a=>hk.block g (h.lt g a).2
theorem eV{w:Θ}{B B':Nat}{e:Z3}{size n:Nat}{v:Ψ}{xs:List Ψ}(h:w.ownsRow B e size v n xs)(hB:B'<=B):w.ownsRow B' e size v n xs:=by
 rcases h with⟨d,⟨rfl,rfl⟩|⟨g,c,a,rfl,b,f⟩⟩
 ·exact⟨d,.inl ⟨rfl,rfl⟩⟩
 ·exact⟨d,.inr ⟨g,c,a,rfl,Nat.le_trans hB b,f⟩⟩
section
variable{w w':Θ}{B B':Nat}{v:Ψ}
theorem OV.below{l:List HV}(h:OV w B v l)(hk:χ w.heap.size w w'):OV w' B v l:=jy h hk
theorem OI.below{l:List Int}(h:OI w B v l)(hk:χ w.heap.size w w'):OI w' B v l:=jy h hk
theorem OC.below{l:List (Int×Ψ)}(h:OC w B v l)(hk:χ w.heap.size w w'):OC w' B v l:=jy h hk
theorem OV.alloc{l:List HV}(h:OV w B v l)(o:Obj):OV (w.alloc o) B v l:=h.below (af w o)
theorem OI.alloc{l:List Int}(h:OI w B v l)(o:Obj):OI (w.alloc o) B v l:=h.below (af w o)
theorem OV.less{l:List HV}(h:OV w B v l)(hB:B'<=B):OV w B' v l:=eV h hB
theorem OI.less{l:List Int}(h:OI w B v l)(hB:B'<=B):OI w B' v l:=eV h hB
theorem OC.less{l:List (Int×Ψ)}(h:OC w B v l)(hB:B'<=B):OC w B' v l:=eV h hB
end
theorem cM{w w':Θ}{B:Nat}{e:Z3}{size n:Nat}{v:Ψ}{xs:List Ψ}(h:w.ownsRow B e size v n xs)(hg:w.grownBy w' v.ownBlock)(hB:B<=w.heap.size):χ B w w':=(Δ B w).grown hg hB fun k a=>(h.lt k a).1
section
variable{ops:Array Oper}{rest:List Oper}{o:Oper}{a:Act}{w:Θ}{Q:Exit->Act->Θ->Prop}
theorem fO(hgd:o.guard=υ)(s x:ζ)(ho:o.op=.call {callee:=.builtin .append,args:=#[s,x],argTypes:=#[23,23]})
 (B:Nat) (v:Ψ) (l:List HV) (hs:a.eval s=v) (hown:OV w B v l) (ad:ZD) (c:Nat) (u:HV) (hx:a.eval x=η (Ξ ad) 1 c)
 (hu:w.cell? (ad.add 0)=Ξ (ψ ω u.1)/\w.cell? (ad.add 1)=Ξ (ψ ω u.2)) (hl:l.length<=1000000000) (hB:B<=w.heap.size)
 (h:∀v' w',OV w' B v' (l++[u]) ->χ B w w'->w.grownBy w' v.ownBlock->ZP aD.prog ops Q rest (a.put o.dst v') w'):ZP aD.prog ops Q (o::rest) a w:=by
 obtain⟨i,hi,e,f,d⟩:=ZS nh;refine ZJ _ hgd s x 23 ho B 50 i _ 2 16 lx hi e f d rfl (by decide) v l.length _ hs hown ad 1 c (lU u) hx rfl (fun j z b=>?_) (fun z hz=>?_) (by unfold Z8;omega) (by omega) hB fun v' w' k g _=>?_
 ·match j,b with
  |0,b=>cases b;exact hu.1
  |1,b=>cases b;exact hu.2
  |j+2,b=>simp[lU]at b
 ·simp[lU]at hz;rcases hz with rfl|rfl<;>rfl
 ·refine h v' w' ?_ (cM hown g hB) g;unfold OV;simpa using k
theorem od(hgd:o.guard=υ)(s x:ζ)(ho:o.op=.call {callee:=.builtin .append,args:=#[s,x],argTypes:=#[24,24]})
 (B:Nat) (v:Ψ) (l:List Int) (hs:a.eval s=v) (hown:OI w B v l) (ad:ZD) (c:Nat) (u:Int) (hx:a.eval x=η (Ξ ad) 1 c)
 (hu:w.cell? (ad.add 0)=Ξ (ψ ω u)) (hl:l.length<=1000000000) (hB:B<=w.heap.size)
 (h:∀v' w',OI w' B v' (l++[u]) ->χ B w w'->w.grownBy w' v.ownBlock->ZP aD.prog ops Q rest (a.put o.dst v') w'):ZP aD.prog ops Q (o::rest) a w:=by
 obtain⟨i,hi,e,f,d⟩:=ZS Dq;refine ZJ _ hgd s x 24 ho B 3 i _ 1 8 se hi e f d rfl (by decide) v l.length _ hs hown ad 1 c (eP u) hx rfl (fun j z b=>?_) (fun z hz=>?_) (by unfold Z8;omega) (by omega) hB fun v' w' k g _=>?_
 ·match j,b with
  |0,b=>cases b;exact hu
  |j+1,b=>simp[eP]at b
 ·simp[eP]at hz;subst hz;rfl
 ·refine h v' w' ?_ (cM hown g hB) g;unfold OI;simpa using k
theorem wh(hgd:o.guard=υ)(s x:ζ)(ho:o.op=.call {callee:=.builtin .append,args:=#[s,x],argTypes:=#[22,22]})
 (B:Nat) (v:Ψ) (l:List (Int×Ψ)) (hs:a.eval s=v) (hown:OC w B v l) (ad:ZD) (c:Nat) (u:Int×Ψ) (ha:u.2.oneCell'=κ) (hx:a.eval x=η (Ξ ad) 1 c)
 (hu:w.cell? (ad.add 0)=Ξ (ψ ω u.1)/\w.cell? (ad.add 1)=Ξ u.2) (hl:l.length<=1000000000) (hB:B<=w.heap.size)
 (h:∀v' w',OC w' B v' (l++[u]) ->χ B w w'->w.grownBy w' v.ownBlock->ZP aD.prog ops Q rest (a.put o.dst v') w'):ZP aD.prog ops Q (o::rest) a w:=by
 obtain⟨i,hi,e,f,d⟩:=ZS ni;refine ZJ _ hgd s x 22 ho B 76 i _ 2 32 mF hi e f d rfl (by decide) v l.length _ hs hown ad 1 c (dW u) hx rfl (fun j z b=>?_) (fun z hz=>?_) (by unfold Z8;omega) (by omega) hB fun v' w' k g _=>?_
 ·match j,b with
  |0,b=>cases b;exact hu.1
  |1,b=>cases b;exact hu.2
  |j+2,b=>simp[dW]at b
 ·simp[dW]at hz;rcases hz with rfl|rfl
  ·rfl
  ·exact ha
 ·refine h v' w' ?_ (cM hown g hB) g;unfold OC;simpa using k
end
end
section
variable(w:Θ)(v:Ψ)
theorem bW{α:Type}{l:List α}{k:Nat}{x:α}(h:l[k]?=Ξ x):l.take (k+1)=l.take k++[x]:=by rw[List.take_add_one,h];rfl
theorem lV(l:List HV)(hv:eI w v l)(hl:l.length<=1000000):
 ο aD.prog 174 #[v] w fun e w'=>(∃r,e=.returned r/\OI w' w.heap.size r (l.map (·.2)))/\χ w.heap.size w w':=by
 obtain⟨a,m,rfl,B,s,g⟩:=hv
 go_enter aD.func174,Tryz.ntmps174
 go_wp2
 go_loopw [3,8] (fun v i wr=>∃k:Nat,k<=l.length/\i=ψ ω k/\OI wr w.heap.size v ((l.take k).map (·.2))/\χ w.heap.size w wr) (fun _ i _=>l.length-(intOf i).toNat)
 case atStart=>exact⟨0,Nat.zero_le _,rfl,OI.nil _ _,Δ _ _⟩
 case round=>
  obtain⟨k,z,rfl,b,c⟩:=hrel;by_cases h:k<l.length
  ·obtain⟨A,C,rfl,j,g⟩:=g (by omega);obtain⟨p,q,e1⟩:=ep h;obtain⟨c1,c2⟩:=(g.below c j) k p q e1;have t:=c.size;have f:((l.take k).map (·.2)).length<=1000000000:=by simp;omega
   have u:=Γ e1;clear g e1
   go_wp2_with (at_builtin;refine od rfl _ _ rfl w.heap.size _ _ rfl ((b.alloc _).alloc _) ⟨wr.heap.size+1,0,υ⟩ _ q rfl (by simp[go_sem,Z9]) f (by simp;omega) ?_;intro y x d n o)
   go_wp2
   go_roundw
   case rel=>exact⟨k+1,by omega,by go_num,by rw[bW u.out,List.map_append];exact d,c.trans ((((Δ _ _).alloc (by omega) _).alloc (by simp;omega) _).trans n)⟩
   case measure=>simp[intOf];omega
  ·go_wp2
   go_ret;refine⟨⟨_,rfl,?_⟩,c⟩;rw[List.take_of_length_le (by omega)]at b;exact b
theorem Ip(l:List Int)(hv:n9 w v l)(hl:l.length<=1000000):
 ο aD.prog 132 #[v] w fun e w'=>(∃r,e=.returned r/\OV w' w.heap.size r (l.map fun n=>((1,n):HV)))/\χ w.heap.size w w':=by
 obtain⟨a,m,rfl,x,t,g⟩:=hv
 go_enter aD.func132,Tryz.ntmps132
 go_wp2
 go_loopw [3,8] (fun v i wr=>∃k:Nat,k<=l.length/\i=ψ ω k/\OV wr w.heap.size v ((l.take k).map fun n=>((1,n):HV))/\χ w.heap.size w wr) (fun _ i _=>l.length-(intOf i).toNat)
 case atStart=>exact⟨0,Nat.zero_le _,rfl,OV.nil _ _,Δ _ _⟩
 case round=>
  obtain⟨k,z,rfl,b,c⟩:=hrel;by_cases h:k<l.length
  ·obtain⟨C,B,rfl,j,g⟩:=g (by omega);obtain⟨q,e1⟩:=lw h;have c1:=(g.below c j) k q e1;have u:=c.size;have f:((l.take k).map fun n=>((1,n):HV)).length<=1000000000:=by simp;omega
   have s:=Γ e1;clear g e1
   go_wp2_with (at_builtin;refine fO rfl _ _ rfl w.heap.size _ _ rfl (b.alloc _) ⟨wr.heap.size,0,υ⟩ _ (1,q) rfl (by simp[go_sem,Z9]) f (by simp;omega) ?_;intro A y d o p)
   go_wp2
   go_roundw
   case rel=>exact⟨k+1,by omega,by go_num,by rw[bW s.out,List.map_append];exact d,c.trans (((Δ _ _).alloc (by omega) _).trans o)⟩
   case measure=>simp[intOf];omega
  ·go_wp2
   go_ret;refine⟨⟨_,rfl,?_⟩,c⟩;rw[List.take_of_length_le (by omega)]at b;exact b
def Sm(n:Int):Prop:=-1000000<=n/\n<=1000000
theorem Iq(v:HV)(o:Int)(h1:-1000000<=v.2)(h2:v.2<=1000000)(h3:0<=o)(h4:o<=1000000):
 ο aD.prog 277 #[eB v,ψ ω o] w fun e w'=>e=.returned (eB (ed o v))/\χ w.heap.size w w':=by
 obtain⟨k,n⟩:=v;dsimp only at h1 h2;by_cases a:k=1
 ·by_cases b:n<o
  ·have hs:ed o (k,n)=(4,n):=by simp[ed,a,b]
   rw[hs];clear hs;subst a;unfold eB
   go_enter aD.func277,ZF
   go_wp2
   exact μ (v:=eB (4,n)) (by simp[Z7,ZM,go_sem,eB]) rfl ⟨rfl,((Δ _ _).alloc (Nat.le_refl _) _).alloc (by simp) _⟩
  ·have hs:ed o (k,n)=(3,n-o):=by simp[ed,a,b]
   rw[hs];clear hs;subst a;unfold eB
   go_enter aD.func277,ZF
   go_wp2
   exact μ (v:=eB (3,n-o)) (by simp[Z7,ZM,go_sem,eB]) rfl ⟨rfl,((Δ _ _).alloc (Nat.le_refl _) _).alloc (by simp) _⟩
 ·have hs:ed o (k,n)=(k,n):=by simp[ed,a]
  rw[hs];clear hs;have c:(k !=1)=κ:=by simp[a]
  unfold eB
  go_enter aD.func277,ZF
  go_wp2
  exact μ (v:=eB (k,n)) (by simp[Z7,ZM,go_sem,eB]) rfl ⟨rfl,((Δ _ _).alloc (Nat.le_refl _) _).alloc (by simp) _⟩
theorem zo(l:List HV)(o:Int)(hv:eI w v l)(hl:l.length<=1000000)(hn:∀x∈l,Sm x.2)(ho:0<=o/\o<=1000000):
 ο aD.prog 262 #[v,ψ ω o] w fun e w'=>(∃r,e=.returned r/\OV w' w.heap.size r (l.map (ed o)))/\χ w.heap.size w w':=by
 obtain⟨a,m,rfl,I,z,n⟩:=hv
 go_enter aD.func262,Tryz.ntmps262
 go_wp2
 go_loopw [5,10] (fun v i wr=>∃k:Nat,k<=l.length/\i=ψ ω k/\OV wr w.heap.size v ((l.take k).map (ed o))/\χ w.heap.size w wr) (fun _ i _=>l.length-(intOf i).toNat)
 case atStart=>exact⟨0,Nat.zero_le _,rfl,OV.nil _ _,Δ _ _⟩
 case round=>
  obtain⟨k,G,rfl,b,c⟩:=hrel;by_cases s:k<l.length
  ·obtain⟨H,J,rfl,t,n⟩:=n (by omega);obtain⟨p,q,e1⟩:=ep s;obtain⟨c1,c2⟩:=(n.below c t) k p q e1;have B:=c.size;have h:((l.take k).map (ed o)).length<=1000000000:=by simp;omega
   have y:=hn (p,q) (List.mem_of_getElem? e1);have C:=Γ e1;clear n e1
   go_wp2_with fail
   refine(Iq _ (p,q) o y.1 y.2 ho.1 ho.2).mono ?_;rintro e D ⟨rfl,g⟩;have d:=(b.alloc (ZV #[ψ ω p,ψ ω q] 50)).below g;have j:=g.size;simp only[World.size_alloc]at j;unfold eB
   go_wp2_with (at_builtin;refine fO rfl _ _ rfl w.heap.size _ _ rfl (d.alloc _) ⟨D.heap.size,0,υ⟩ _ (ed o (p,q)) rfl (by simp[go_sem,Z9]) h (by simp;omega) ?_;intro F E f u A)
   go_wp2
   go_roundw
   case rel=>exact⟨k+1,by omega,by go_num,by rw[bW C.out,List.map_append];exact f,c.trans (((((Δ _ _).alloc (by omega) _).trans (g.mono (by simp;omega))).alloc (by omega) _).trans u)⟩
   case measure=>simp[intOf];omega
  ·go_wp2
   go_ret;refine⟨⟨_,rfl,?_⟩,c⟩;rw[List.take_of_length_le (by omega)]at b;exact b
end
section
variable(n c:Nat)(w:Θ)
theorem mG{P:ZU}(t e:Z3)(i:TypeInfo)(z:Ψ)(ht:P.underlying t=Ξ (.slice e))(hi:P.info? e=Ξ i)(hz:i.zero=Ξ z)
 (kl kc:IntKind) (n c:Nat) (hnc:n<=c) (hbytes:i.bytes*c<=281474976710656) (h63:c<=9223372036854775807) (w:Θ):
 (Instr.makeSlice t (.int kl (n:Int)) (.int kc (c:Int))).run P w=.ok (η (Ξ ⟨w.heap.size,0,υ⟩) n c) (w.alloc (.cells (ZX z.cells (c*i.size)) e)):=by
 have hb:(i.bytes:Int)*(c:Int)<=281474976710656:=by
  have h:((i.bytes*c:Nat):Int)<=281474976710656:=by omega
  rwa[Int.natCast_mul]at h
 have a:=run_make (P:=P) w t e i z ht hi hz kl kc n c (by omega) (by omega) hb (by omega);simp only[Int.toNat_natCast]at a;exact a
theorem BC(hnc:n<=c)(hc:c<=1000000000)(w:Θ):
 (Instr.makeSlice 23 (ψ ω (n:Int)) (ψ ω (c:Int))).run aD.prog w=.ok (η (Ξ ⟨w.heap.size,0,υ⟩) n c) (w.alloc (.cells (ZX #[ψ ω 0,ψ ω 0] (c*2)) 50)):=by
 obtain⟨e,hi,a,b,d⟩:=ZS nh;have:=mG 23 50 e _ lx hi a ω ω n c hnc (by rw[d];omega) (by omega) w;rw[b]at this;exact this
theorem jz(z:Array Ψ)(n:Nat):(ZX z n).size=n:=by simp[ZX]
theorem sf(B c:Nat)(hB:B<=w.heap.size)(hc:c<=1000000000):OV (w.alloc (.cells (ZX #[ψ ω 0,ψ ω 0] (c*2)) 50)) B (η (Ξ ⟨w.heap.size,0,υ⟩) 0 c) []:=by refine⟨rfl,.inr ⟨w.heap.size,c,_,rfl,hB,Zz w _,Nat.zero_le _,by unfold Z8;omega,jz _ _,by simp⟩⟩
theorem gz(v:Ψ)(l:List HV)(o:Int)(hv:eI w v l)(hl:l.length<=1000000)(hn:∀x∈l,Sm x.2)(ho:0<=o/\o<=1000000):
 ο aD.prog 173 #[v,ψ ω o] w fun e w'=>(∃r,e=.returned r/\OV w' w.heap.size r (l.map (cp o)))/\χ w.heap.size w w':=by
 obtain⟨a,m,rfl,R,J,A⟩:=hv;obtain⟨L,N⟩:=ho;have t:=fun W=>BC 0 l.length (Nat.zero_le _) (by omega) W
 simp only[Int.natCast_zero,Int.ofNat_zero]at t
 go_enter aD.func173,Tryz.ntmps173
 go_wp2
 clear t;have j:=sf w w.heap.size l.length (Nat.le_refl _) (by omega);have n:=af w (.cells (ZX #[ψ ω 0,ψ ω 0] (l.length*2)) 50);generalize (w.alloc (.cells (ZX #[ψ ω 0,ψ ω 0] (l.length*2)) 50))=Q at j n⊢
 go_loopw [5,13] (fun v i wr=>∃k:Nat,k<=l.length/\i=ψ ω k/\OV wr w.heap.size v ((l.take k).map (cp o))/\χ w.heap.size w wr) (fun _ i _=>l.length-(intOf i).toNat)
 case atStart=>exact⟨0,Nat.zero_le _,rfl,j,n⟩
 case round=>
  obtain⟨k,O,rfl,c,d⟩:=hrel;clear j n;by_cases C:k<l.length
  ·obtain⟨P,S,rfl,D,A⟩:=A (by omega);obtain⟨p,q,e1⟩:=ep C;obtain⟨c1,c2⟩:=(A.below d D) k p q e1;have K:=d.size;have f:((l.take k).map (cp o)).length<=1000000000:=by simp;omega
   obtain⟨B,F⟩:=hn (p,q) (List.mem_of_getElem? e1);dsimp only at B F;have E:=Γ e1;clear A e1;by_cases z:p=3
   ·subst z;have h:cp o (3,q)=(1,q+o):=by simp[cp]
    have u:=Γ h;clear h
    go_wp2_with (at_builtin;refine fO rfl _ _ rfl w.heap.size _ _ rfl ((c.alloc (ZV #[ψ ω 1,ψ ω (q+o)] 50)).alloc _) ⟨wr.heap.size+1,0,υ⟩ _ (1,q+o) rfl (by simp[go_sem,Z9]) f (by simp;omega) ?_;intro H G b g s)
    go_wp2
    go_roundw
    case rel=>exact⟨k+1,by omega,by go_num,by rw[bW E.out,List.map_append,List.map_singleton,u.out];exact b,d.trans ((((Δ _ _).alloc (by omega) _).alloc (by simp;omega) _).trans g)⟩
    case measure=>simp[intOf];omega
   ·by_cases y:p=4
    ·subst y;have h:cp o (4,q)=(1,q):=by simp[cp]
     have u:=Γ h;clear h
     go_wp2_with (at_builtin;refine fO rfl _ _ rfl w.heap.size _ _ rfl ((c.alloc (ZV #[ψ ω 1,ψ ω q] 50)).alloc _) ⟨wr.heap.size+1,0,υ⟩ _ (1,q) rfl (by simp[go_sem,Z9]) f (by simp;omega) ?_;intro H G b g s)
     go_wp2
     go_roundw
     case rel=>exact⟨k+1,by omega,by go_num,by rw[bW E.out,List.map_append,List.map_singleton,u.out];exact b,d.trans ((((Δ _ _).alloc (by omega) _).alloc (by simp;omega) _).trans g)⟩
     case measure=>simp[intOf];omega
    ·have h:cp o (p,q)=(p,q):=by simp[cp,z,y]
     have u:=Γ h;have M:(p==3)=φ:=by simp[z]
     have I:(p==4)=φ:=by simp[y]
     clear h z y
     go_wp2_with (at_builtin;refine fO rfl _ _ rfl w.heap.size _ _ rfl ((c.alloc (ZV #[ψ ω p,ψ ω q] 50)).alloc _) ⟨wr.heap.size+1,0,υ⟩ _ (p,q) rfl (by simp[go_sem,Z9]) f (by simp;omega) ?_;intro H G b g s)
     go_wp2
     go_roundw
     case rel=>exact⟨k+1,by omega,by go_num,by rw[bW E.out,List.map_append,List.map_singleton,u.out];exact b,d.trans ((((Δ _ _).alloc (by omega) _).alloc (by simp;omega) _).trans g)⟩
     case measure=>simp[intOf];omega
  ·go_wp2
   go_ret;refine⟨⟨_,rfl,?_⟩,d⟩;rw[List.take_of_length_le (by omega)]at c;exact c
end
section
theorem oe{P:ZU}(w:Θ)(base:Nat)(t ty e:Z3)(i:TypeInfo)(size:Nat)(ht:P.underlying t=Ξ (.slice e))(hi:P.info? e=Ξ i)
 (v:Ψ) (n:Nat) (xs:List Ψ) (hown:w.ownsRow base e size v n xs) (c:Nat):(ZZ #[t,t] ty #[v,η υ 0 c]).run P w=.ok v w:=by
 rcases hown.2 with⟨rfl,rfl⟩|⟨g,d,b,rfl,_,_,a,_⟩
 ·simp[ZZ,run_underlying ht,ZC,ZK,hi,Builtin.lenOf,Zy]
 ·simp[ZZ,run_underlying ht,ZC,ZK,hi,Builtin.lenOf,Zy,a,storeCells]
theorem zq{P:ZU}(w:Θ)(base:Nat)(t ty e:Z3)(i:TypeInfo)(z:Ψ)(size bytes:Nat)(ht:P.underlying t=Ξ (.slice e))(hi:P.info? e=Ξ i)(hz:i.zero=Ξ z)
 (hsize:i.size=size) (hby:i.bytes=bytes) (hzs:z.cells.size=size) (hsz:0<size)
 (v:Ψ) (n:Nat) (xs:List Ψ) (hown:w.ownsRow base e size v n xs) (A:Option ZD) (m c:Nat) (news:List Ψ) (hl:news.length=m*size)
 (hr:0<m->∃ad,A=Ξ ad/\∀j u,news[j]?=Ξ u->w.cell? (ad.add j)=Ξ u) (h1:∀u∈news,u.oneCell'=κ)
 (h63:n+m<=Z8) (hbytes:(n+m)*bytes<=140737488355328) (hbase:base<=w.heap.size):
 ∃v' w',(ZZ #[t,t] ty #[v,.slice A m c]).run P w=.ok v' w'/\w'.ownsRow base e size v' (n+m) (xs++news)/\w.grownBy w' v.ownBlock:=by
 rcases A with _|ad
 ·have g:m=0:=by
   rcases Nat.eq_zero_or_pos m with h0|h0
   ·exact h0
   ·obtain⟨ad,h,_⟩:=hr h0;cases h
  subst g;have d:news=[]:=List.eq_nil_of_length_eq_zero (by simpa using hl);subst d;exact⟨v,w,oe w base t ty e i size ht hi v n xs hown c,by simpa using hown,World.grownBy.refl w _⟩
 ·have a:∀j u,news[j]?=Ξ u->w.cell? (ad.add j)=Ξ u:=by
   intro j u f;rcases Nat.eq_zero_or_pos m with h0|h0
   ·subst h0;have d:news=[]:=List.eq_nil_of_length_eq_zero (by simpa using hl);subst d;simp at f
   ·obtain⟨k,h,hc⟩:=hr h0;injection h with h
    subst h;exact hc j u f
  obtain⟨v',w',b,l,o,_⟩:=run_append_own (P:=P) w base t ty e i z size bytes ht hi hz hsize hby hzs hsz v n xs hown ad m c news hl a h1 h63 hbytes hbase;exact⟨v',w',b,l,o⟩
theorem sg{P:ZU}{w:Θ}{o:Oper}{a:Act}{K:Act->Θ->Prop}{Q:Exit->Act->Θ->Prop}(s x:ζ)(t:Z3)
 (ho:o.op=.call {callee:=.builtin .append,args:=#[s,x],argTypes:=#[t,t]})
 (base:Nat) (e:Z3) (i:TypeInfo) (z:Ψ) (size bytes:Nat) (ht:P.underlying t=Ξ (.slice e)) (hi:P.info? e=Ξ i) (hz:i.zero=Ξ z)
 (hsize:i.size=size) (hby:i.bytes=bytes) (hzs:z.cells.size=size) (hsz:0<size)
 (v:Ψ) (n:Nat) (xs:List Ψ) (hs:a.eval s=v) (hown:w.ownsRow base e size v n xs)
 (A:Option ZD) (m c:Nat) (news:List Ψ) (hx:a.eval x=.slice A m c) (hl:news.length=m*size) (hr:0<m->∃ad,A=Ξ ad/\∀j u,news[j]?=Ξ u->w.cell? (ad.add j)=Ξ u) (h1:∀u∈news,u.oneCell'=κ)
 (h63:n+m<=Z8) (hbytes:(n+m)*bytes<=140737488355328) (hbase:base<=w.heap.size)
 (h:∀v' w',w'.ownsRow base e size v' (n+m) (xs++news) ->w.grownBy w' v.ownBlock->K (a.put o.dst v') w'):o.wp P a w K Q:=by
 obtain⟨v',w',b,d,f⟩:=zq (P:=P) w base t o.type e i z size bytes ht hi hz hsize hby hzs hsz v n xs hown A m c news hl hr h1 h63 hbytes hbase;unfold Oper.wp Zx;simp only[ho,resolve,invoke,builtin,Z4,ZB,θ,List.map_toArray,List.map_cons,List.map_nil,hs,hx,b];exact h v' w' d f
theorem zt{w:Θ}{b o:Nat}{l:List HV}(h:Il w b o l):∀j u,(l.flatMap lU)[j]?=Ξ u->w.cell? ((⟨b,o,υ⟩:ZD).add j)=Ξ u:=by
 intro j u c;have k:j<(l.flatMap lU).length:=(List.getElem?_eq_some_iff.1 c).1;have f:(l.flatMap lU).length=l.length*2:=by
  clear c k h
  induction l with
  |nil=>rfl
  |cons a l n=>rw[List.flatMap_cons,List.length_append,n];simp[lU];omega
 obtain⟨x,g⟩:∃x,l[j/2]?=Ξ x:=⟨_,List.getElem?_eq_getElem (by omega)⟩;obtain⟨e1,e2⟩:=jx lU (fun v=>ψ ω v.1) (fun v=>ψ ω v.2) (fun _=>rfl) l (j/2) x g;obtain⟨e,d⟩:=h (j/2) x.1 x.2 g;have m:(⟨b,o,υ⟩:ZD).add j=⟨b,o+j,υ⟩:=by unfold Z9;split<;>simp_all
 rw[m];rcases Nat.mod_two_eq_zero_or_one j with i|i
 ·rw[show j/2*2=j by omega]at e1 e;rw[e1]at c;cases c
  exact e
 ·rw[show j/2*2+1=j by omega]at e2;rw[show o+j/2*2+1=o+j by omega]at d;rw[e2]at c;cases c
  exact d
theorem aeU{w:Θ}{b o:Nat}{l:List Int}(h:Im w b o l):∀j u,(l.flatMap eP)[j]?=Ξ u->w.cell? ((⟨b,o,υ⟩:ZD).add j)=Ξ u:=by
 intro j u c;have f:j<(l.flatMap eP).length:=(List.getElem?_eq_some_iff.1 c).1;have d:(l.flatMap eP).length=l.length:=by
  clear c f h
  induction l with
  |nil=>rfl
  |cons a l i=>rw[List.flatMap_cons,List.length_append,i];simp[eP];omega
 obtain⟨x,e⟩:∃x,l[j]?=Ξ x:=⟨_,List.getElem?_eq_getElem (by omega)⟩;have e1:=zn eP (fun n=>ψ ω n) (fun _=>rfl) l j x e;have g:(⟨b,o,υ⟩:ZD).add j=⟨b,o+j,υ⟩:=by unfold Z9;split<;>simp_all
 rw[g,h j x e];rw[e1]at c;exact c
theorem fx(l:List HV):(l.flatMap lU).length=l.length*2:=by
 induction l with
 |nil=>rfl
 |cons a l b=>rw[List.flatMap_cons,List.length_append,b];simp[lU];omega
theorem EO(l:List Int):(l.flatMap eP).length=l.length*1:=by
 induction l with
 |nil=>rfl
 |cons a l b=>rw[List.flatMap_cons,List.length_append,b];simp[eP];omega
section
variable{ops:Array Oper}{rest:List Oper}{o:Oper}{a:Act}{w:Θ}{Q:Exit->Act->Θ->Prop}{K:Act->Θ->Prop}
theorem EP(s x:ζ)(ho:o.op=.call {callee:=.builtin .append,args:=#[s,x],argTypes:=#[23,23]})
 (B:Nat) (v:Ψ) (l:List HV) (hs:a.eval s=v) (hown:OV w B v l) (v2:Ψ) (l2:List HV) (hx:a.eval x=v2) (hu:eI w v2 l2) (hl:l.length<=1000000000) (hl2:l2.length<=1000000000) (hB:B<=w.heap.size)
 (h:∀v' w',OV w' B v' (l++l2) ->χ B w w'->w.grownBy w' v.ownBlock->K (a.put o.dst v') w'):o.wp aD.prog a w K Q:=by
 obtain⟨j,hi,e,f,d⟩:=ZS nh;obtain⟨A,c,rfl,_,_,k⟩:=hu;refine sg s x 23 ho B 50 j _ 2 16 lx hi e f d rfl (by decide) v l.length _ hs hown A l2.length c (l2.flatMap lU) hx (fx _) (fun h0=>?_) (V1 _) (by unfold Z8;omega) (by omega) hB fun v' w' m i=>?_
 ·obtain⟨b,o,rfl,_,g⟩:=k h0;exact⟨_,rfl,zt g⟩
 ·refine h v' w' ?_ (cM hown i hB) i;unfold OV;rw[List.flatMap_append,List.length_append];exact m
theorem tI(hgd:o.guard=υ)(s x:ζ)(ho:o.op=.call {callee:=.builtin .append,args:=#[s,x],argTypes:=#[23,23]})
 (B:Nat) (v:Ψ) (l:List HV) (hs:a.eval s=v) (hown:OV w B v l) (v2:Ψ) (l2:List HV) (hx:a.eval x=v2) (hu:eI w v2 l2) (hl:l.length<=1000000000) (hl2:l2.length<=1000000000) (hB:B<=w.heap.size)
 (h:∀v' w',OV w' B v' (l++l2) ->χ B w w'->w.grownBy w' v.ownBlock->ZP aD.prog ops Q rest (a.put o.dst v') w'):ZP aD.prog ops Q (o::rest) a w:=
 wpList_plain hgd fun _ b=>EP s x ho B v l hs hown v2 l2 hx hu hl hl2 hB fun v' w' c e d=>b _ _ (h v' w' c e d)
theorem EQ(s x:ζ)(ho:o.op=.call {callee:=.builtin .append,args:=#[s,x],argTypes:=#[24,24]})
 (B:Nat) (v:Ψ) (l:List Int) (hs:a.eval s=v) (hown:OI w B v l) (v2:Ψ) (l2:List Int) (hx:a.eval x=v2) (hu:n9 w v2 l2) (hl:l.length<=1000000000) (hl2:l2.length<=1000000000) (hB:B<=w.heap.size)
 (h:∀v' w',OI w' B v' (l++l2) ->χ B w w'->w.grownBy w' v.ownBlock->K (a.put o.dst v') w'):o.wp aD.prog a w K Q:=by
 obtain⟨j,hi,e,f,d⟩:=ZS Dq;obtain⟨A,c,rfl,_,_,k⟩:=hu;refine sg s x 24 ho B 3 j _ 1 8 se hi e f d rfl (by decide) v l.length _ hs hown A l2.length c (l2.flatMap eP) hx (EO _) (fun h0=>?_) (amT _) (by unfold Z8;omega) (by omega) hB fun v' w' m i=>?_
 ·obtain⟨b,o,rfl,_,g⟩:=k h0;exact⟨_,rfl,aeU g⟩
 ·refine h v' w' ?_ (cM hown i hB) i;unfold OI;rw[List.flatMap_append,List.length_append];exact m
theorem tJ(hgd:o.guard=υ)(s x:ζ)(ho:o.op=.call {callee:=.builtin .append,args:=#[s,x],argTypes:=#[24,24]})
 (B:Nat) (v:Ψ) (l:List Int) (hs:a.eval s=v) (hown:OI w B v l) (v2:Ψ) (l2:List Int) (hx:a.eval x=v2) (hu:n9 w v2 l2) (hl:l.length<=1000000000) (hl2:l2.length<=1000000000) (hB:B<=w.heap.size)
 (h:∀v' w',OI w' B v' (l++l2) ->χ B w w'->w.grownBy w' v.ownBlock->ZP aD.prog ops Q rest (a.put o.dst v') w'):ZP aD.prog ops Q (o::rest) a w:=
 wpList_plain hgd fun _ b=>EQ s x ho B v l hs hown v2 l2 hx hu hl hl2 hB fun v' w' c e d=>b _ _ (h v' w' c e d)
end
theorem zu(w:Θ)(B:Nat)(hB:B<=w.heap.size):OV (w.alloc (ZV #[] 50)) B (η (Ξ ⟨w.heap.size,0,υ⟩) 0 0) []:=⟨rfl,.inr ⟨w.heap.size,0,_,rfl,hB,Zz w _,Nat.le_refl _,by unfold Z8;omega,rfl,by simp⟩⟩
theorem zx(w:Θ)(B:Nat)(hB:B<=w.heap.size):OI (w.alloc (ZV #[] 3)) B (η (Ξ ⟨w.heap.size,0,υ⟩) 0 0) []:=⟨rfl,.inr ⟨w.heap.size,0,_,rfl,hB,Zz w _,Nat.le_refl _,by unfold Z8;omega,rfl,by simp⟩⟩
theorem Ir(n m:Nat)(a:Option ZD)(w:Θ):(binOp .eql 23 (.slice a n m) (η υ 0 0)).run aD.prog w=.ok (.bool a.isNone) w:=ZW w 23 50 a n m 0 0 lx
theorem Q2(n m:Nat)(a:Option ZD)(w:Θ):(binOp .eql 24 (.slice a n m) (η υ 0 0)).run aD.prog w=.ok (.bool a.isNone) w:=ZW w 24 3 a n m 0 0 se
theorem og(w:Θ)(v:Ψ)(l:List HV)(hv:eI w v l)(hl:l.length<=1000000):
 ο aD.prog 148 #[v] w fun e w'=>(∃r,e=.returned r/\OV w' w.heap.size r l)/\χ w.heap.size w w':=by
 have H:=Γ hv;obtain⟨a,m,rfl,k,i,d⟩:=hv;rcases a with _|a
 ·have h0:l=[]:=by
   rcases Nat.eq_zero_or_pos l.length with h0|h0
   ·exact List.eq_nil_of_length_eq_zero h0
   ·obtain⟨b,o,h,_⟩:=d h0;cases h
  subst h0;clear d;have g:=Ir 0 m υ
  go_enter aD.func148,Tryz.ntmps148
  go_wp2
  go_ret;exact⟨⟨_,rfl,OV.nil _ _⟩,Δ _ _⟩
 ·clear d;have g:=Ir l.length m (Ξ a)
  go_enter aD.func148,Tryz.ntmps148
  go_wp2_with (at_builtin;refine tI rfl _ _ rfl w.heap.size _ [] rfl (zu w _ (Nat.le_refl _)) _ l rfl (H.out.below (af _ _)) (by simp) (by omega) (by simp) ?_;intro p n c f j)
  go_wp2
  go_ret;exact⟨⟨_,rfl,by simpa using c⟩,(af _ _).trans f⟩
theorem wj(w:Θ)(v:Ψ)(l:List Int)(hv:n9 w v l)(hl:l.length<=1000000):
 ο aD.prog 149 #[v] w fun e w'=>(∃r,e=.returned r/\OI w' w.heap.size r l)/\χ w.heap.size w w':=by
 have H:=Γ hv;obtain⟨a,m,rfl,k,i,d⟩:=hv;rcases a with _|a
 ·have h0:l=[]:=by
   rcases Nat.eq_zero_or_pos l.length with h0|h0
   ·exact List.eq_nil_of_length_eq_zero h0
   ·obtain⟨b,o,h,_⟩:=d h0;cases h
  subst h0;clear d;have g:=Q2 0 m υ
  go_enter aD.func149,Tryz.ntmps149
  go_wp2
  go_ret;exact⟨⟨_,rfl,OI.nil _ _⟩,Δ _ _⟩
 ·clear d;have g:=Q2 l.length m (Ξ a)
  go_enter aD.func149,Tryz.ntmps149
  go_wp2_with (at_builtin;refine tJ rfl _ _ rfl w.heap.size _ [] rfl (zx w _ (Nat.le_refl _)) _ l rfl (H.out.below (af _ _)) (by simp) (by omega) (by simp) ?_;intro p n c f j)
  go_wp2
  go_ret;exact⟨⟨_,rfl,by simpa using c⟩,(af _ _).trans f⟩
end
section
variable(w:Θ)(v:Ψ){α:Type}
theorem Q3(p q p' q':Int)(w:Θ):(binOp .eql 50 (.agg #[ψ ω p,ψ ω q]) (.agg #[ψ ω p',ψ ω q'])).run aD.prog w=.ok (.bool (p==p'&&q==q')) w:=by rw[run_eql_struct,VY];rfl
def tK{α:Type}[DecidableEq α](l:List α)(v:α):Int:=if v∈l then(l.idxOf v:Nat)else-1
theorem si[DecidableEq α]{l:List α}{v:α}{k:Nat}(h:l[k]?=Ξ v)(hn:v∉l.take k):tK l v=k:=by
 have a:v∈l:=List.mem_of_getElem? h;unfold tK;rw[if_pos a]
 congr 1
 have b:=(List.getElem?_eq_some_iff.1 h).1;have e:l=l.take k++l.drop k:=(List.take_append_drop k l).symm;rw[e,List.idxOf_append,if_neg hn,List.drop_eq_getElem_cons b,(List.getElem?_eq_some_iff.1 h).2];simp;omega
theorem oh{l:List α}{v x:α}{k:Nat}(hn:v∉l.take k)(h:l[k]?=Ξ x)(hne:v≠x):v∉l.take (k+1):=by rw[List.take_add_one,h];simp[hn,hne]
theorem NW(l:List HV)(x:HV)(hv:eI w v l):
 ο aD.prog 217 #[v,eB x] w fun e w'=>e=.returned (ψ ω (tK l x))/\χ w.heap.size w w':=by
 obtain⟨p0,b⟩:=x;obtain⟨a,m,rfl,y,t,f⟩:=hv;unfold eB;dsimp only
 go_enter aD.func217,Tryz.ntmps217
 go_wp2
 go_loopw [8] (fun i wr=>∃k:Nat,k<=l.length/\i=ψ ω k/\Hid ((p0,b)∉l.take k)/\∃n,wr=(w.alloc (ZV #[ψ ω p0,ψ ω b] 50)).drewN n) (fun i _=>l.length-(intOf i).toNat)
 case atStart=>exact⟨0,Nat.zero_le _,rfl,Γ (by simp),0,rfl⟩
 case round=>
  obtain⟨k,z,rfl,j,n,rfl⟩:=hrel;by_cases h:k<l.length
  ·obtain⟨B,A,rfl,g,f⟩:=f (by omega);obtain⟨p,q,e1⟩:=ep h;obtain⟨c1,c2⟩:=(f.below (af w (ZV #[ψ ω p0,ψ ω b] 50)) g) k p q e1;have o:=Γ e1;clear f e1;by_cases d:(p0,b)=(p,q)
   ·cases d
    have c:∀w:Θ,(binOp .eql 50 (.agg #[ψ ω p0,ψ ω b]) (.agg #[ψ ω p0,ψ ω b])).run aD.prog w=.ok (.bool κ) w:=fun w=>by rw[Q3];simp
    go_wp2
    go_quiet (fail)
    clear c c1 c2
    go_wp2
    go_ret;exact⟨by rw[si o.out j.out];rfl,by first|exact bl (af w _) _|exact bl (bl (af w _) _) _⟩
   ·have c:∀w:Θ,(binOp .eql 50 (.agg #[ψ ω p0,ψ ω b]) (.agg #[ψ ω p,ψ ω q])).run aD.prog w=.ok (.bool φ) w:=fun w=>by
     rw[Q3];have:(p0==p&&b==q)=φ:=by simp only[Prod.mk.injEq]at d;simp;intro s r;exact d ⟨s,r⟩
     rw[this]
    have u:=Γ d;clear d
    go_wp2
    go_quiet (fail)
    clear c c1 c2
    go_wp2
    exact⟨⟨k+1,by omega,by go_num,Γ (oh j.out o.out u.out),_,rfl⟩,by simp[intOf];omega⟩
  ·go_wp2
   go_ret;have:=j.out;rw[List.take_of_length_le (by omega)]at this;exact⟨by unfold tK;rw[if_neg this];rfl,bl (af w _) _⟩
theorem NX(l:List Int)(x:Int)(hv:n9 w v l):
 ο aD.prog 218 #[v,ψ ω x] w fun e w'=>e=.returned (ψ ω (tK l x))/\w'=w:=by
 obtain⟨a,m,rfl,q,n,b⟩:=hv
 go_enter aD.func218,Tryz.ntmps218
 go_wp2
 go_loopw [8] (fun i wr=>∃k:Nat,k<=l.length/\i=ψ ω k/\Hid (x∉l.take k)/\wr=w) (fun i _=>l.length-(intOf i).toNat)
 case atStart=>exact⟨0,Nat.zero_le _,rfl,Γ (by simp),rfl⟩
 case round=>
  obtain⟨k,r,rfl,g,rfl⟩:=hrel;by_cases f:k<l.length
  ·obtain⟨t,s,rfl,j,b⟩:=b (by omega);obtain⟨p,e1⟩:=lw f;have c1:=b k p e1;have h:=Γ e1;clear b e1;by_cases c:x=p
   ·subst c;have d:(x==x)=κ:=by simp
    go_wp2
    go_ret;exact⟨by rw[si h.out g.out];rfl,rfl⟩
   ·have d:(x==p)=φ:=by simp[c]
    have o:=Γ c;clear c
    go_wp2
    exact⟨⟨k+1,by omega,by go_num,Γ (oh g.out h.out o.out),by trivial⟩,by simp[intOf];omega⟩
  ·go_wp2
   go_ret;have:=g.out;rw[List.take_of_length_le (by omega)]at this;exact⟨by unfold tK;rw[if_neg this];rfl,rfl⟩
theorem Dr[DecidableEq α](l:List α)(v:α):(0<=tK l v)=(v∈l):=by unfold tK;split<;>simp[*]
theorem BD(l:List HV)(x:HV)(hv:eI w v l):
 ο aD.prog 170 #[v,eB x] w fun e w'=>e=.returned (.bool (l.contains x))/\χ w.heap.size w w':=by
 have H:=Γ hv;obtain⟨a,m,rfl,_,_,_⟩:=hv;obtain⟨p0,c⟩:=x;have b:decide (0<=tK l (p0,c))=l.contains (p0,c):=by simp[Dr]
 have d:=Γ b;clear b;unfold eB;dsimp only
 go_enter aD.func170,Tryz.ntmps170
 go_wp2_with fail
 refine(NW _ _ l (p0,c) (H.out.below (af _ _))).mono ?_;rintro e w' ⟨rfl,hb⟩
 go_wp2
 go_ret;exact⟨by rw[d.out];rfl,(af _ _).trans (hb.mono (by simp))⟩
theorem sj(l:List Int)(x:Int)(hv:n9 w v l):
 ο aD.prog 171 #[v,ψ ω x] w fun e w'=>e=.returned (.bool (l.contains x))/\w'=w:=by
 have H:=Γ hv;obtain⟨a,m,rfl,_,_,_⟩:=hv;have b:decide (0<=tK l x)=l.contains x:=by simp[Dr]
 have c:=Γ b;clear b
 go_enter aD.func171,Tryz.ntmps171
 go_wp2_with fail
 refine(NX _ _ l x H.out).mono ?_;rintro e w' ⟨rfl,rfl⟩
 go_wp2
 go_ret;exact⟨by rw[c.out];rfl,rfl⟩
end
section
variable{vs:List HV}
def yg(cs:List HC)(k:Nat):List Int:=((List.range k).filter fun i=>jW (cs.getD i (0,[]))).map fun(i:Nat)=>(i:Int)
theorem V2(cs:List HC)(k:Nat):(yg cs k).length<=k:=by unfold yg;rw[List.length_map];have:=List.length_filter_le (fun i=>jW (cs.getD i (0,[]))) (List.range k);simpa using this
theorem NY{cs:List HC}{k:Nat}{c:HC}(h:cs[k]?=Ξ c):yg cs (k+1)=if jW c then yg cs k++[(k:Int)]else yg cs k:=by
 unfold yg;rw[List.range_succ,List.filter_append,List.map_append];have:cs.getD k (0,[])=c:=by simp[List.getD,h]
 simp only[List.filter_cons,this,List.filter_nil];split<;>simp
theorem Is(g:GH):ju g=yg g.old g.old.length:=rfl
theorem ER{p:Int}{j:Nat}{n:Int}(h:vs[j]?=Ξ (3,n)):jW (p,vs)=κ:=by unfold jW;exact List.any_eq_true.2 ⟨_,List.mem_of_getElem? h,rfl⟩
theorem It{p:Int}(h:∀x∈vs,dy x=φ):jW (p,vs)=φ:=by
 unfold jW;rw[List.any_eq_false];intro x a;rw[h x a]
 decide
theorem BE{j:Nat}{x:HV}(h:∀y∈vs.take j,dy y=φ)(e:vs[j]?=Ξ x)(hx:dy x=φ):∀y∈vs.take (j+1),dy y=φ:=by
 rw[bW e];intro y a;rcases List.mem_append.1 a with a|a
 ·exact h y a
 ·rw[List.mem_singleton.1 a];exact hx
theorem Dt(w:Θ)(b:Nat)(g:GH)(h:mi w b g)(hl:g.old.length<=1000000):
 ο aD.prog 107 #[ZL (Ξ ⟨b,0,υ⟩)] w fun e w'=>(∃r,e=.returned r/\OI w' w.heap.size r (ju g))/\χ w.heap.size w w':=by
 obtain⟨n,o,r,wi,d,m,c0,c1,_,_,_,_,_,⟨a,m2,rfl,hm,hm2,P⟩,_⟩:=h;have hb:=az c1;rw[Is];generalize V:g.old=cs at *;clear V
 go_enter aD.func107,Tryz.ntmps107
 go_wp2
 go_step3
 go_wp2
 go_step3
 go_wp2
 go_loopw [3,14] (fun v i wr=>∃k:Nat,k<=cs.length/\i=ψ ω k/\OI wr w.heap.size v (yg cs k)/\χ w.heap.size w wr) (fun _ i _=>cs.length-(intOf i).toNat)
 case atStart=>exact⟨0,Nat.zero_le _,rfl,OI.nil _ _,Δ _ _⟩
 case round=>
  obtain⟨k,hk,rfl,c,q⟩:=hrel;by_cases R:k<cs.length
  ·obtain⟨ba,oa,rfl,S,P⟩:=P (by omega);obtain⟨p,s,e1⟩:=cQ R;obtain⟨d1,x,d2,hx⟩:=(P.below q S) k p s e1;obtain⟨ax,Y,rfl,hmx,Z,N⟩:=hx;have U:=q.size;have G:(yg cs k).length<=1000000000:=by have:=V2 cs k;omega
   have E1:=Γ (NY e1);have HX:=Γ N;have HO:=Γ c;clear P e1 N c
   go_wp2
   have f:=af wr (ZV #[ψ ω p,.slice ax s.length Y] 76);generalize M:wr.alloc (ZV #[ψ ω p,.slice ax s.length Y] 76)=w0 at f⊢;have A:=q.trans (f.mono U);have L:=Γ (HO.out.below f);have HW0:=Γ M;clear HO M
   go_loopw [3,22] (fun v i F=>∃j:Nat,j<=s.length/\i=ψ ω j/\Hid (∀y∈s.take j,dy y=φ)/\χ w0.heap.size w0 F/\OI F w.heap.size v (yg cs k)) (fun _ i _=>s.length-(intOf i).toNat)
   case atStart=>exact⟨0,Nat.zero_le _,rfl,Γ (by simp),Δ _ _,L.out⟩
   case round=>
    obtain⟨j,hj,rfl,D,l,C⟩:=hrel;clear L;have amU:=l.size;have u:=A.size;by_cases J:j<s.length
    ·obtain⟨bb,ob,rfl,H,E⟩:=HX.out (by omega);have t:=(E.below f H).below l (Nat.lt_of_lt_of_le H f.size);obtain⟨Q,nq,e2⟩:=ep J;obtain⟨f1,f2⟩:=t j Q nq e2;have X:=Γ e2;clear E t e2 HX;by_cases O:Q=3
     ·subst O;have I:=ER (p:=p) X.out;have z:=E1.out;rw[if_pos I]at z;have T:=Γ z;clear z I
      go_wp2_with (at_builtin;refine od rfl _ _ rfl w.heap.size _ _ rfl ((C.alloc _).alloc _) ⟨wr.heap.size+1,0,υ⟩ _ k rfl (by simp[go_sem,Z9]) G (by simp;omega) ?_;intro v' w1 B W hg1)
      go_wp2
      exact⟨⟨k+1,by omega,by go_num,by rw[T.out];exact B,A.trans ((l.mono u).trans ((((Δ _ _).alloc (by omega) _).alloc (by simp;omega) _).trans W))⟩,by simp[intOf];omega⟩
     ·have h3':(Q==3)=φ:=by simp[O]
      have K:dy (Q,nq)=φ:=by simp[dy,O]
      have HN:=Γ K;clear O K
      go_wp2
      exact⟨⟨j+1,by omega,by go_num,Γ (BE D.out X.out HN.out),l.trans ((Δ _ _).alloc (by omega) _),C.alloc _⟩,by simp[intOf];omega⟩
    ·have I:jW (p,s)=φ:=It (by have:=D.out;rwa[List.take_of_length_le (by omega)]at this);have z:=E1.out;rw[if_neg (by rw[I];decide)]at z;have T:=Γ z;clear z I
     go_wp2
     exact⟨⟨k+1,by omega,by go_num,by rw[T.out];exact C,A.trans (l.mono u)⟩,by simp[intOf];omega⟩
  ·go_wp2
   rw[Exit.noGoto_ret];go_ret;refine⟨⟨_,rfl,?_⟩,q⟩;rw[show cs.length=k by omega];exact c
end
end Kn
namespace Kn
open Go Go.RowKit Md Vc
section
variable{w:Θ}{Q:Exit->Act->Θ->Prop}{a:Act}
theorem ES(m:Bool)(t:Nat):ZY m aE t=[0,1]\/ZY m aE t=[1,0]:=by
 have h:ZY m aE t=Region.linearise .any aE t:=by unfold ZY;rw[if_pos (by rw[show Region.departs aE=φ by decide+kernel];simp)]
 rw[h];have e1:((List.range aE.size).filter fun i=>!(ι aE.size φ).getD i κ&&((aE[i]?).map (·.after.all fun e=>!ZE .any e||(ι aE.size φ).getD e.on φ)).getD φ)=[0,1]:=by decide+kernel
 have b:((List.range aE.size).filter fun i=>!((ι aE.size φ).setIfInBounds 0 κ).getD i κ&&((aE[i]?).map (·.after.all fun e=>!ZE .any e||((ι aE.size φ).setIfInBounds 0 κ).getD e.on φ)).getD φ)=[1]:=by decide+kernel
 have a:((List.range aE.size).filter fun i=>!((ι aE.size φ).setIfInBounds 1 κ).getD i κ&&((aE[i]?).map (·.after.all fun e=>!ZE .any e||((ι aE.size φ).setIfInBounds 1 κ).getD e.on φ)).getD φ)=[0]:=by decide+kernel
 unfold Region.linearise;rw[show aE.size=1+1 from rfl];unfold ξ;rw[show(1+1)=aE.size from rfl];simp only[e1];rcases Nat.mod_two_eq_zero_or_one t with h0|h0
 ·left;simp only[List.length_cons,List.length_nil,Nat.zero_add,Nat.reduceAdd,h0,List.getElem?_cons_zero];unfold ξ;simp only[b];simp[Nat.mod_one,ξ]
 ·right;simp only[List.length_cons,List.length_nil,Nat.zero_add,Nat.reduceAdd,h0,List.getElem?_cons_succ,List.getElem?_cons_zero];unfold ξ;simp only[a];simp[Nat.mod_one,ξ]
def kJ(x y:Ψ)(a:Act):Act:={a with tmps:=(a.tmps.setIfInBounds 41 x).setIfInBounds 42 y}
theorem is(x y x' y':Ψ)(a:Act):kJ x' y' (kJ x y a)=kJ x' y' a:=by
 unfold kJ
 congr 1
 refine Zw fun i=>?_
 simp only[ZN,ZG];by_cases b:42=i
 ·simp[b]
 ·by_cases c:41=i<;>simp[b,c]
theorem V3{id:Nat}(h:∀y:Bool,Q .normal {a with tmps:=a.tmps.setIfInBounds 42 (.bool y)} w.drew):(Code.region id aE κ).wp aD.prog Q a w:=by
 refine wp_region_draw fun d=>?_
 have b:∀(a:Act) (w:Θ) (y:Bool) (i:Nat) (o:Oper) (rest:List Nat),aE[i]?=Ξ o->o={dst:=Ξ 42,op:=.assign (.const (.bool y)),type:=0,pos:= "",after:=#[],guard:=υ} ->wpOps aD.prog aE Q rest {a with tmps:=a.tmps.setIfInBounds 42 (.bool y)} w->wpOps aD.prog aE Q (i::rest) a w:=by intro a w y i o rest c e h;subst e;unfold wpOps;rw[c];simp only[ZI,if_true];left;simpa[Oper.wp,Zx,Oper.upon,Z2,Z1]using h
 rcases ES (aD.prog.follows .mixedOrders) d with e|e<;>rw[e]
 ·refine b _ _ κ 0 _ _ rfl rfl (b _ _ φ 1 _ _ rfl rfl ?_);have:=h φ;simpa[wpOps]using this
 ·refine b _ _ φ 1 _ _ rfl rfl (b _ _ κ 0 _ _ rfl rfl ?_);have:=h κ;simpa[wpOps]using this
theorem iV{k t:Nat}(hsz:a.tmps.size=43)(h:∀x y w',χ w.heap.size w w'->Q .normal (kJ x y a) w'):(tE k t).wp aD.prog Q a w:=by
 unfold tE;refine Z0 (V3 fun y=>?_);show(Code.cond (tm 42) _ _).wp _ _ _ _;have c:({a with tmps:=a.tmps.setIfInBounds 42 (.bool y)}:Act).eval (tm 42)=.bool y:=by simp[Z2,tm,hsz]
 cases y with
 |false=>
  refine wp_cond_false c (wp_skip ?_);have:=h (a.tmps.getD 41 undef) (.bool φ) w.drew (Δ _ _).drew;have e:kJ (a.tmps.getD 41 undef) (.bool φ) a={a with tmps:=a.tmps.setIfInBounds 42 (.bool φ)}:=by
   unfold kJ
   congr 1
   refine Zw fun i=>?_
   simp only[ZN,ZG];by_cases b:42=i
   ·simp[b]
   ·by_cases d:41=i
    ·subst d;simp[Array.getD,hsz]
    ·simp[b,d]
  rw[e]at this;exact this
 |true=>refine wp_cond_true c ?_;unfold rg;refine wp_region ?_;have:=h (ZL (Ξ ⟨w.heap.size,0,υ⟩)) (.bool κ) (w.drew.alloc (ZV #[] t)) ((Δ _ _).drew.alloc (Nat.le_refl _) _);show wpOps _ _ _ [0] _ _;unfold wpOps;simp only[List.getElem?_toArray,List.getElem?_cons_zero,ZI,if_true];left;simpa[Oper.wp,Zx,Oper.upon,Z2,Z1,wpOps,kJ,go_sem,Array.setIfInBounds_comm]using this
theorem NZ(hsz:a.tmps.size=43)(h:∀x y w',χ w.heap.size w w'->Q .normal (kJ x y a) w'):Nk.wp aD.prog Q a w:=by
 have hs:∀x y (a:Act),a.tmps.size=43->(kJ x y a).tmps.size=43:=by intro x y a h;simp[kJ,h]
 unfold Nk;simp only[sq];refine Z0 (iV hsz fun x1 s p b=>?_);refine Z0 (iV (hs _ _ _ hsz) fun x2 D C l=>?_);refine Z0 (iV (hs _ _ _ (hs _ _ _ hsz)) fun x3 t q j=>?_);simp only[is];refine Z0 (iV (hs _ _ _ hsz) fun x4 A w4 m=>?_);simp only[is];refine Z0 (iV (hs _ _ _ hsz) fun x5 v w5 g=>?_);simp only[is];refine Z0 (iV (hs _ _ _ hsz) fun x6 z r i=>?_);simp only[is];refine Z0 (iV (hs _ _ _ hsz) fun x7 o w7 k=>?_);simp only[is];refine iV (hs _ _ _ hsz) fun B u w8 n=>?_
 simp only[is];have c2:=b.trans (l.mono b.size);have c3:=c2.trans (j.mono c2.size);have f:=c3.trans (m.mono c3.size);have d:=f.trans (g.mono f.size);have e:=d.trans (i.mono d.size);have c:=e.trans (k.mono e.size);exact h _ _ _ (c.trans (n.mono c.size))
theorem Iu{P:ZU}{dst:Option Tmp}{op:Op}{v:Ψ}(hrun:(Zx a.eval {dst,op,type:=0,pos:= "",after:=#[],guard:=υ}).run P w=.ok (.value v) w)(h:Q .normal (a.put dst v) w):(rg dst op).wp P Q a w:=by unfold rg;refine wp_region ?_;show wpOps _ _ _ [0] _ _;unfold wpOps;simp only[List.getElem?_toArray,List.getElem?_cons_zero,ZI,if_true];left;unfold Oper.wp;rw[hrun];simpa[Oper.upon,wpOps]using h
theorem sk(hsz:a.tmps.size=43)(h0:a.tmps.getD 17 undef=ψ ω 0)(h:∀a' w',a'.tmps.size=43->a'.defers=a.defers->χ w.heap.size w w'->Q (.exit 2) a' w'):
 (Code.loop (.seq (rg (Ξ 15) (cmp .lss (tm 17) (ci 2199023255552))) (.seq (.cond (tm 15) .skip (.exit 2)) (.seq Nk (.seq (rg (Ξ 16) (.binOp .add 3 (tm 17) (ci 1) 3)) (rg (Ξ 17) (.move (tm 16)))))))).wp aD.prog Q a w:=by
 refine wp_loop (fun a' w'=>a'.tmps.size=43/\a'.defers=a.defers/\χ w.heap.size w w'/\∃k:Nat,k<=2199023255552/\a'.tmps.getD 17 undef=ψ ω k) (fun a' _=>2199023255552-(intOf (a'.tmps.getD 17 undef)).toNat) ?_ ?_
 ·exact⟨hsz,rfl,Δ _ _,0,by omega,h0⟩
 ·rintro a' w' ⟨c,m,j,k,o,g⟩;have i:a'.eval (tm 17)=ψ ω k:=by simpa[Z2,tm]using g
  refine Z0 (Iu (v:=.bool (decide ((k:Int)<2199023255552))) (by simp[Zx,cmp,i,ci];simp[Z2,go_sem]) ?_);show(Code.seq _ _).wp _ _ _ _;have b:(a'.put (Ξ 15) (.bool (decide ((k:Int)<2199023255552)))).eval (tm 15)=.bool (decide ((k:Int)<2199023255552)):=by simp[Z2,tm,Z1,c]
  by_cases n:k<2199023255552
  ·have hd:decide ((k:Int)<2199023255552)=κ:=by simp;omega
   rw[hd]at b⊢;refine Z0 (wp_cond_true b (wp_skip ?_));show(Code.seq _ _).wp _ _ _ _;refine Z0 (NZ (by simp[Z1,c]) fun x y p l=>?_);show(Code.seq _ _).wp _ _ _ _;have f:(kJ x y (a'.put (Ξ 15) (.bool κ))).tmps.getD 17 undef=ψ ω k:=by have e:=g;simp[c]at e;simp[kJ,Z1,c];exact e
   have d:(kJ x y (a'.put (Ξ 15) (.bool κ))).eval (tm 17)=ψ ω k:=by simpa[Z2,tm]using f
   refine Z0 (Iu (v:=ψ ω ((k:Int)+1)) (by simp[Zx,d,ci];simp[Z2,go_sem];rw[IntKind.wrap_i64];omega) ?_)
   show(rg _ _).wp _ _ _ _;refine Iu (v:=ψ ω ((k:Int)+1)) (by simp[Zx,tm,Z2,Z1,kJ,c]) ?_;refine⟨⟨by simp[Z1,kJ,c],m,j.trans (l.mono j.size),k+1,by omega,by simp[Z1,kJ,c]⟩,?_⟩;show 2199023255552-_<2199023255552-_;rw[g];simp[Z1,kJ,c,intOf];omega
  ·have hd:decide ((k:Int)<2199023255552)=φ:=by simp;omega
   rw[hd]at b⊢;refine Z0 (wp_cond_false b ?_);exact wp_exit (h _ _ (by simp[Z1,c]) m j)
end
section
variable(p:Int)(w:Θ)
theorem func166:aD.prog.funcs[166]?=Ξ Vm:=by kernel_rfl
theorem ntmps166:Vm.ntmps=43:=rfl
theorem results166:Vm.results=#[]:=by kernel_rfl
theorem aeV(n m:Nat)(a:Option ZD)(w:Θ):(binOp .eql 22 (.slice a n m) (η υ 0 0)).run aD.prog w=.ok (.bool a.isNone) w:=ZW w 22 76 a n m 0 0 mF
theorem g9:∀{l:List Int},cU l=0->∀x∈l,x=0
 |[],_,x,hx=>by cases hx
 |e::l,h,x,hx=>by
  unfold cU at h;split at h
  ·rename_i h0;rcases List.mem_cons.1 hx with rfl|hx
   ·exact h0
   ·exact g9 h x hx
  ·rename_i h0;exact absurd h h0
theorem N0{g:GH}{k n:Int}(h:mh g (k,n)=0):(k=0/\-99<=n/\n<=99)\/(k=2/\n=0)\/(k=3/\0<=n/\n<g.new.length)\/(k=4/\0<=n/\n<g.old.length):=by
 unfold mh at h;dsimp only at h;by_cases h0:k=0
 ·simp[h0]at h;omega
 ·by_cases a:k=2
  ·simp[a]at h;omega
  ·by_cases c:k=3
   ·subst c;simp[eO]at h;omega
   ·by_cases b:k=4
    ·subst b;simp[eO]at h;omega
    ·simp[h0,a,c,b]at h
theorem zy{g:GH}{p:Int}{vs:List HV}(h:zj g (p,vs)=0):((p=0/\vs.length<=4)\/(p=1/\vs.length=1)\/(p=2/\vs.length=2))/\∀v∈vs,mh g v=0:=by
 unfold zj at h;dsimp only at h;by_cases c:p<0\/2<p
 ·rw[if_pos c]at h;exact absurd h (by decide)
 ·rw[if_neg c]at h;by_cases b:vs.length<(if p=0 then 0 else if p=1 then 1 else 2)
  ·rw[if_pos b]at h;exact absurd h (by decide)
  ·rw[if_neg b]at h;by_cases a:(if p=0 then 4 else if p=1 then 1 else 2)<vs.length
   ·rw[if_pos a]at h;exact absurd h (by decide)
   ·rw[if_neg a]at h;refine⟨?_,fun v d=>g9 h _ (List.mem_map_of_mem d)⟩;by_cases h0:p=0
    ·simp[h0]at a;omega
    ·by_cases e:p=1
     ·rw[if_neg h0,if_pos e]at b a;omega
     ·have f:p=2:=by omega
      subst f;simp at b a;omega
theorem V4(x:Ψ)(w:Θ):(Instr.field 76 (.agg #[ψ ω p,x]) 0).run aD.prog w=.ok (ψ ω p) w:=by kernel_rfl
theorem V5(x:Ψ)(w:Θ):(Instr.field 76 (.agg #[ψ ω p,x]) 1).run aD.prog w=.ok x w:=by kernel_rfl
theorem V6(q:Int)(w:Θ):(Instr.field 50 (.agg #[ψ ω p,ψ ω q]) 0).run aD.prog w=.ok (ψ ω p) w:=by kernel_rfl
theorem V7(q:Int)(w:Θ):(Instr.field 50 (.agg #[ψ ω p,ψ ω q]) 1).run aD.prog w=.ok (ψ ω q) w:=by kernel_rfl
theorem Iv(b:Nat)(g:GH)(v:Ψ)(cs:List HC)(tG:Nat)(hg:mi w b g)(hv:sa w v cs)(hm:cs.length<=tG)(hmm:tG<=1000000)(hc:∀c∈cs,zj g c=0):
 ο aD.prog 166 #[ZL (Ξ ⟨b,0,υ⟩),v,ψ ω tG] w fun e w'=>e=.returned (.tuple #[])/\χ w.heap.size w w':=by
 obtain⟨n,o,r,wi,d,m,c0,c1,_,_,_,_,⟨a1,m1,rfl,_,_,_⟩,⟨a2,m2,rfl,_,_,_⟩,_⟩:=hg;obtain⟨a,m,rfl,W,Z,I⟩:=hv;have hb:=az c0;have E:=Γ I;have HC:=Γ hc;have hz:(a.isNone&&decide (cs.length≠0))=φ:=by
  rcases a with _|a
  ·rcases Nat.eq_zero_or_pos cs.length with h0|h0
   ·simp[h0]
   ·obtain⟨_,_,h,_⟩:=I h0;cases h
  ·simp
 clear I hc;have hq:=aeV;have hq2:=Ir;have V:=V4;have hf1:=V5;have hf2:=V6;have Q:=V7;refine calls_of_wp func166 rfl ?_;simp only[ntmps166,List.size_toArray,List.length_cons,List.length_nil,Nat.reduceAdd,Nat.reduceSub,Array.replicate_succ,Array.replicate_zero,List.push_toArray,List.append_toArray,List.nil_append,List.cons_append];unfold Hs;simp only[sq,Hr,rg,EC,tm,ci,Hq,rf,yS,cmp,cellC,adR];have C:¬(tG<cs.length):=by omega
 have P:¬((1000000:Int)<cs.length):=by omega
 rcases a with _|ad
 ·have N:cs.length=0:=by simpa using hz
  have H:cs=[]:=List.eq_nil_of_length_eq_zero N;subst H;clear hz N
  go_wp2
  go_loopw [17] (fun i wr=>i=ψ ω 0/\wr=w) (fun i _=>0)
  case atStart=>exact⟨rfl,rfl⟩
  case round=>
   obtain⟨rfl,rfl⟩:=hrel
   go_wp2_with fail
   refine sk rfl rfl fun U w' Y B G=>?_
   refine ‹∀(a:Act) (w:Θ),Code.wp aD.prog Code.ret _ a w->_› _ _ (wp_ret ?_);exact⟨B,.tuple #[],by simp[Z7,results166],rfl,G⟩
 ·clear hz
  go_wp2
  go_loopw [17] (fun i wr=>∃k:Nat,k<=cs.length/\i=ψ ω k/\wr=w) (fun i _=>cs.length-(intOf i).toNat)
  case atStart=>exact⟨0,Nat.zero_le _,rfl,rfl⟩
  case round=>
   obtain⟨k,hk,rfl,rfl⟩:=hrel;by_cases A:k<cs.length
   ·obtain⟨ba,oa,e,S,f⟩:=E.out (by omega);cases e
    obtain⟨p,l,e1⟩:=cQ A;obtain⟨c2,x,c3,hx⟩:=f k p l e1;obtain⟨M,z⟩:=zy (HC.out _ (List.mem_of_getElem? e1));obtain⟨u,mx,rfl,X,L,s⟩:=hx;have J:=Γ s;have HV:=Γ z;have hz:(u.isNone&&decide (l.length≠0))=φ:=by
     rcases u with _|a
     ·rcases Nat.eq_zero_or_pos l.length with h0|h0
      ·simp[h0]
      ·obtain⟨_,_,h,_⟩:=s h0;cases h
     ·simp
    clear f e1 s z;have R:l.length<=4:=by omega
    have F:((p==0)=κ/\((4:Int)<l.length->False))\/((p==0)=φ/\(p==1)=κ/\((l.length:Int) !=1)=φ)\/((p==0)=φ/\(p==1)=φ/\(p==2)=κ/\((l.length:Int) !=2)=φ):=by
     rcases M with⟨rfl,h⟩|⟨rfl,h⟩|⟨rfl,h⟩
     ·exact .inl ⟨rfl,fun h'=>by omega⟩
     ·exact .inr (.inl ⟨rfl,rfl,by simp[h]⟩)
     ·exact .inr (.inr ⟨rfl,rfl,rfl,by simp[h]⟩)
    clear M E HC;have q:u=υ->((l.length:Int) !=0)=φ:=by rintro rfl;simp at hz;simp[hz]
    clear hz;rcases u with _|u
    all_goals
     first
     |(have hz3:=q rfl;clear q)
     |clear q
     rcases F with⟨K,O⟩|⟨K,O,T⟩|⟨K,O,T,k4⟩
     all_goals
      go_wp2
      go_loopw [30] (fun i D=>∃j:Nat,j<=l.length/\i=ψ ω j/\D=wr) (fun i _=>l.length-(intOf i).toNat)
      case atStart=>exact⟨0,Nat.zero_le _,rfl,rfl⟩
      case round=>
       obtain⟨j,hj,rfl,rfl⟩:=hrel;by_cases y:j<l.length
       ·obtain⟨bb,ob,e,hbb,f⟩:=J.out (by omega)
        first
        |(cases e;done)
        |(cases e
          obtain⟨kq,nq,e1⟩:=ep y;obtain⟨d1,d2⟩:=f j kq nq e1;have t:=N0 (HV.out _ (List.mem_of_getElem? e1));clear f e1 J HV;rcases t with⟨rfl,v1,v2⟩|⟨rfl,rfl⟩|⟨rfl,v1,v2⟩|⟨rfl,v1,v2⟩
          all_goals
           go_wp2
           exact⟨⟨j+1,by omega,by go_num,by trivial⟩,by simp[intOf];omega⟩)
       ·clear J HV
        go_wp2
        exact⟨⟨k+1,by omega,by go_num,by trivial⟩,by simp[intOf];omega⟩
   ·clear E HC
    go_wp2_with fail
    refine sk rfl rfl fun U w' Y B G=>?_
    refine ‹∀(a:Act) (w:Θ),Code.wp aD.prog Code.ret _ a w->_› _ _ (wp_ret ?_);exact⟨B,.tuple #[],by simp[Z7,results166],rfl,G⟩
end
end Kn
