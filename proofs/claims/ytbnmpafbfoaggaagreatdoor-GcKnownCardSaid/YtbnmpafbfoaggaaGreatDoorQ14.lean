/- A part of the proof of GcKnown; no conditions. -/
import Derived.Test.YtbnmpafbfoaggaaGreatDoorQ13
import Derived.Test.YtbnmpafbfoaggaaGreatDoorQ0
set_option linter.unusedVariables false
set_option linter.unusedSimpArgs false
set_option maxRecDepth 100000
set_option maxHeartbeats 16000000
noncomputable section
open Option renaming some->Ω,bind_eq_some_iff->Ξ,none->Z9,map_some->ZZ,map_eq_some_iff->ZO
open Bool renaming false->Ψ,true->Θ,false_eq_true->ξ,and_eq_true->Z1
open Go renaming Goroutine->Δ,Addr->χ,Value->υ,World->ο,TypeId->κ,Frame->ζ,FuncId->ZT,Question->ZQ,Obj->ZM,Func->ZL,Program->ZK,TypeInfo->ZB,Item->Zq
open Go.Value renaming slice->Γ,pointer->θ,int->ε
open Go.Region renaming schedule->ω
open Go.IntKind renaming wrap->ψ,i64->μ
open Go.Frame renaming enter->φ
open Go.Extern.ReflectliteValue renaming valueError->ι,method->Z4,unpack->ZG,methodAny->ZF,isNil->ZE,elem->ZD,set->ZC
open Array renaming getElem?_eq_some_iff->η,getElem?_eq_none->Z0,getElem?_toList->ZW,getElem?_map->ZU,find?_some->ZS,mem_iff_getElem->ZI,mem_toList_iff->Zz
open List renaming all_eq_true->Z8,getElem?_cons_zero->Z2,foldl_cons->ZX,not_mem_nil->ZR,exists_cons_of_ne_nil->ZP,mem_cons->ZN,getElem?_toArray->ZH,contains_iff_mem->ZA,mem_cons_of_mem->Zy
open Option.some renaming injEq->Z7,inj->ZJ
open Go.Extern.ReflectliteType renaming relation->Z3,toType->Zx,typeOf->Zw,assignableTo->Zv,method->Zu,elem->Zt,implements_->Zs,abiMethod->Zr
open Go.Sem renaming run->ZY,runT_eq->Zp
open Go.Result renaming andThen->ZV
namespace Go.Proofs.YtbnmpafbfoaggaaGreatDoor
namespace Vc
open Go Go.Conc Ph
section
variable(b:Bool)(v0:χ)(la:Option χ)(n m nN nO:Nat)(q j:Int)(cs:List ζ)(ca:Option χ)(cn:Nat)(x:υ)(c0:ζ)(cm:Nat)(i:Int)(g:Δ)(room k N:Int)(pe:χ)
abbrev Vg:=Cg PV 400
abbrev Vf:=Cf PV 400
def fV(b:Bool)(T:List Zq)(l:List (Nat×υ)):bG:={fn:=166,n:=43,T,l,kind:=jq b}
def dL(d:bG)(stop:Δ->Bool):Δ:=bN PV Θ stop 400 (SC d [] [default] fun _ _=>undef)
def rS(d:bG)(v:υ)(stop:Δ->Bool):Δ:=bN PV Θ stop 400 (fin v (SC d [] [default] fun _ _=>undef))
def KR:List Zq:=[.code Hs]
def w4:=aK (dL (fV Ψ KR [pv 0 a0,(1,Γ (Ω a0) 1 1),iv 2 5]) (aC 166 4))
def w41:=aK (dL (fV Ψ KR [pv 0 a0,(1,Γ Z9 0 0),iv 2 5]) (aC 166 41))
def w5:=aK (dL (fV Ψ w4 [bv 4 Ψ,iv 3 1,pv 0 a0,(1,Γ (Ω a0) 1 1)]) (aC 166 5))
def w9:=aK (dL (fV Ψ w5 [bv 5 Ψ,iv 3 1,pv 0 a0,(1,Γ (Ω a0) 1 1)]) (ah 166 9))
def w12:=aK (rS (fV Ψ w9 [iv 3 1,pv 7 a0,pv 0 a0,(1,Γ (Ω a0) 1 1)]) (Γ (Ω a0) 1 1) (ah 166 12))
def Vn:=aK (rS (fV Ψ w12 [iv 3 1,iv 10 1,(1,Γ (Ω a0) 1 1)]) (Γ (Ω a0) 1 1) (aC 166 18))
def w19:=aK (dL (fV Ψ Vn [bv 18 Θ,iv 17 0,iv 13 1,iv 3 1,iv 10 1,(1,Γ (Ω a0) 1 1)]) (ah 166 19))
def QU:=aK (rS (fV Ψ w19 [iv 17 0,iv 13 1,iv 3 1,iv 10 1,(1,Γ (Ω a0) 1 1)]) (θ (Ω a0)) (ah 166 20))
def Vo:=aK (rS (fV Ψ QU [iv 17 0,iv 13 1,iv 3 1,iv 10 1,(1,Γ (Ω a0) 1 1)]) (.agg #[ε μ 0,Γ (Ω a0) 1 1]) (aC 166 25))
def Vp:=aK (rS (fV Ψ QU [iv 17 0,iv 13 1,iv 3 1,iv 10 1,(1,Γ (Ω a0) 1 1)]) (.agg #[ε μ 0,Γ Z9 0 0]) (aC 166 41))
def Nl:=aK (dL (fV Ψ Vo [bv 25 Θ,iv 21 0,(22,Γ (Ω a0) 1 1),iv 24 1,iv 17 0,iv 13 1,iv 3 1,iv 10 1,(1,Γ (Ω a0) 1 1)]) (aC 166 26))
def Ht:=aK (dL (fV Ψ Vo [bv 25 Ψ,iv 21 1,(22,Γ (Ω a0) 1 1),iv 24 1,iv 17 0,iv 13 1,iv 3 1,iv 10 1,(1,Γ (Ω a0) 1 1)]) (aC 166 27))
def Vq:=aK (dL (fV Ψ Ht [bv 27 Θ,iv 21 1,(22,Γ (Ω a0) 1 1),iv 24 1,iv 17 0,iv 13 1,iv 3 1,iv 10 1,(1,Γ (Ω a0) 1 1)]) (aC 166 26))
def Nm:=aK (dL (fV Ψ Ht [bv 27 Ψ,iv 21 2,(22,Γ (Ω a0) 1 1),iv 24 1,iv 17 0,iv 13 1,iv 3 1,iv 10 1,(1,Γ (Ω a0) 1 1)]) (aC 166 23))
def Vr:=aK (dL (fV Ψ Nm [bv 23 Θ,iv 21 2,(22,Γ (Ω a0) 1 1),iv 24 1,iv 17 0,iv 13 1,iv 3 1,iv 10 1,(1,Γ (Ω a0) 1 1)]) (aC 166 26))
def Fv:=aK (dL (fV Ψ Nl [bv 26 Ψ,(22,Γ (Ω a0) 1 1),iv 24 1,iv 17 0,iv 13 1,iv 3 1,iv 10 1,(1,Γ (Ω a0) 1 1)]) (aC 166 29))
def w31:=aK (dL (fV Ψ Fv [bv 29 Θ,iv 30 0,(22,Γ (Ω a0) 1 1),iv 24 1,iv 17 0,iv 13 1,iv 3 1,iv 10 1,(1,Γ (Ω a0) 1 1)]) (ah 166 31))
def Vs:=aK (rS (fV Ψ w31 [iv 30 0,(22,Γ (Ω a0) 1 1),iv 24 1,iv 17 0,iv 13 1,iv 3 1,iv 10 1,(1,Γ (Ω a0) 1 1)]) (θ (Ω a0)) (ah 166 32))
def w35:=aK (rS (fV Ψ Vs [iv 30 0,(22,Γ (Ω a0) 1 1),iv 24 1,iv 17 0,iv 13 1,iv 3 1,iv 10 1,(1,Γ (Ω a0) 1 1)]) (.agg #[ε μ 0,ε μ 0]) (aC 166 35))
def Nn:=aK (dL (fV Ψ w35 [bv 35 Θ,iv 33 0,iv 34 0,iv 30 0,(22,Γ (Ω a0) 1 1),iv 24 1,iv 17 0,iv 13 1,iv 3 1,iv 10 1,(1,Γ (Ω a0) 1 1)]) (aC 166 36))
def Vt:=aK (dL (fV Ψ Nn [bv 36 Ψ,iv 33 0,iv 34 0,iv 30 0,(22,Γ (Ω a0) 1 1),iv 24 1,iv 17 0,iv 13 1,iv 3 1,iv 10 1,(1,Γ (Ω a0) 1 1)]) (aC 166 37))
def Hu:=aK (dL (fV Ψ w35 [bv 35 Ψ,iv 33 2,iv 34 0,iv 30 0,(22,Γ (Ω a0) 1 1),iv 24 1,iv 17 0,iv 13 1,iv 3 1,iv 10 1,(1,Γ (Ω a0) 1 1)]) (aC 166 38))
def Vu:=aK (dL (fV Ψ Hu [bv 38 Θ,iv 33 2,iv 34 0,iv 30 0,(22,Γ (Ω a0) 1 1),iv 24 1,iv 17 0,iv 13 1,iv 3 1,iv 10 1,(1,Γ (Ω a0) 1 1)]) (aC 166 36))
def Hv:=aK (dL (fV Ψ Hu [bv 38 Ψ,iv 33 3,iv 34 0,iv 30 0,(22,Γ (Ω a0) 1 1),iv 24 1,iv 17 0,iv 13 1,iv 3 1,iv 10 1,(1,Γ (Ω a0) 1 1)]) (aC 166 39))
def No:=aK (dL (fV Ψ Hv [bv 39 Θ,iv 33 3,iv 34 0,iv 30 0,(22,Γ (Ω a0) 1 1),iv 24 1,iv 17 0,iv 13 1,iv 3 1,iv 10 1,(1,Γ (Ω a0) 1 1)]) (aC 166 36))
def Vv:=aK (dL (fV Ψ No [bv 36 Ψ,iv 33 3,iv 34 0,iv 30 0,(22,Γ (Ω a0) 1 1),iv 24 1,iv 17 0,iv 13 1,iv 3 1,iv 10 1,(1,Γ (Ω a0) 1 1)]) (aC 166 37))
def Np:=aK (dL (fV Ψ Hv [bv 39 Ψ,iv 33 4,iv 34 0,iv 30 0,(22,Γ (Ω a0) 1 1),iv 24 1,iv 17 0,iv 13 1,iv 3 1,iv 10 1,(1,Γ (Ω a0) 1 1)]) (aC 166 14))
def Nq:=aK (dL (fV Ψ Np [bv 14 Θ,iv 33 4,iv 34 0,iv 30 0,(22,Γ (Ω a0) 1 1),iv 24 1,iv 17 0,iv 13 1,iv 3 1,iv 10 1,(1,Γ (Ω a0) 1 1)]) (aC 166 36))
def Vw:=aK (dL (fV Ψ Nq [bv 36 Ψ,iv 33 4,iv 34 0,iv 30 0,(22,Γ (Ω a0) 1 1),iv 24 1,iv 17 0,iv 13 1,iv 3 1,iv 10 1,(1,Γ (Ω a0) 1 1)]) (aC 166 37))
def wp:=aK (dL (fV Ψ Vn [bv 18 Ψ,iv 17 0,iv 13 1,iv 3 1,iv 10 1,(1,Γ (Ω a0) 1 1)]) (aC 166 15))
def u0:=aK (dL (fV Ψ wp [bv 15 Θ,iv 17 0]) never)
def r0:List Zq:=u0.tail
def x0:=aK (dL (fV Ψ (.inRegion aE [1,0]::r0) [iv 17 0]) (ah 166 41))
def u1:=aK (dL (fV Ψ (.inRegion aE [0,1]::r0) [iv 17 0]) never)
def r1:List Zq:=u1.tail
def x1:=aK (dL (fV Ψ (.inRegion aE [1,0]::r1) [iv 17 0]) (ah 166 41))
def u2:=aK (dL (fV Ψ (.inRegion aE [0,1]::r1) [iv 17 0]) never)
def r2:List Zq:=u2.tail
def x2:=aK (dL (fV Ψ (.inRegion aE [1,0]::r2) [iv 17 0]) (ah 166 41))
def u3:=aK (dL (fV Ψ (.inRegion aE [0,1]::r2) [iv 17 0]) never)
def r3:List Zq:=u3.tail
def x3:=aK (dL (fV Ψ (.inRegion aE [1,0]::r3) [iv 17 0]) (ah 166 41))
def u4:=aK (dL (fV Ψ (.inRegion aE [0,1]::r3) [iv 17 0]) never)
def r4:List Zq:=u4.tail
def x4:=aK (dL (fV Ψ (.inRegion aE [1,0]::r4) [iv 17 0]) (ah 166 41))
def u5:=aK (dL (fV Ψ (.inRegion aE [0,1]::r4) [iv 17 0]) never)
def r5:List Zq:=u5.tail
def x5:=aK (dL (fV Ψ (.inRegion aE [1,0]::r5) [iv 17 0]) (ah 166 41))
def u6:=aK (dL (fV Ψ (.inRegion aE [0,1]::r5) [iv 17 0]) never)
def r6:List Zq:=u6.tail
def x6:=aK (dL (fV Ψ (.inRegion aE [1,0]::r6) [iv 17 0]) (ah 166 41))
def u7:=aK (dL (fV Ψ (.inRegion aE [0,1]::r6) [iv 17 0]) never)
def r7:List Zq:=u7.tail
def x7:=aK (dL (fV Ψ (.inRegion aE [1,0]::r7) [iv 17 0]) (ah 166 41))
def Vx:=aK (dL (fV Ψ wp [bv 15 Ψ,iv 17 0]) (lQ 166))
abbrev cL(ca:Option χ)(cn:Nat)(cm:Nat)(j:Int)(nO:Nat)(nN:Nat)(n:Nat)(la:Option χ)(m:Nat):List (Nat×υ):=[(22,.slice ca cn cm),iv 24 cn,iv 17 j,iv 13 nO,iv 10 nN,iv 3 n,(1,.slice la n m)]
abbrev pf(j:Int)(nO:Nat)(nN:Nat)(n:Nat)(la:Option χ)(m:Nat):List (Nat×υ):=[iv 17 j,iv 13 nO,iv 10 nN,iv 3 n,(1,.slice la n m)]
theorem s_0(a:χ)(n m:Nat)(room:Int):Vg (fV b KR [pv 0 v0,(1,Γ (Ω a) n m),iv 2 room]) [] (fV b w4 [bv 4 (decide ((n:Int)>room)),iv 3 n,pv 0 v0,(1,Γ (Ω a) n m)]) []:=by cases b<;>exact fun _ _=>bJ (aC 166 4) fun _=>by kernel_rfl
theorem alw:Vg (fV b KR [pv 0 v0,(1,Γ Z9 n m),iv 2 room]) [] (fV b w41 [bv 41 ((n:Int) !=0),iv 3 n,pv 0 v0,(1,Γ Z9 n m),iv 2 room]) []:=by cases b<;>exact fun _ _=>bJ (aC 166 41) fun _=>by kernel_rfl
theorem alx:Vg (fV b w41 [bv 41 Ψ,iv 3 n,pv 0 v0,(1,Γ Z9 n m),iv 2 room]) [] (fV b w4 [bv 4 (decide ((n:Int)>room)),iv 3 n,pv 0 v0,(1,Γ Z9 n m)]) []:=by cases b<;>exact fun _ _=>bJ (aC 166 4) fun _=>by kernel_rfl
theorem s_4:Vg (fV b w4 [bv 4 Ψ,iv 3 n,pv 0 v0,(1,.slice la n m)]) [] (fV b w5 [bv 5 (decide ((n:Int)>1000000)),iv 3 n,pv 0 v0,(1,.slice la n m)]) []:=by cases b<;>exact fun _ _=>bJ (aC 166 5) fun _=>by kernel_rfl
theorem s_5:Vg (fV b w5 [bv 5 Ψ,iv 3 n,pv 0 v0,(1,.slice la n m)]) [] (fV b w9 [pv 8 ((v0.add 0).add 0),pv 7 (v0.add 0),iv 3 n,(1,.slice la n m)]) []:=by cases b<;>exact fun _ _=>bJ (ah 166 9) fun _=>by kernel_rfl
theorem s_9(oa:Option χ)(nN om:Nat):Vf (.slice oa nN om) (fV b w9 [pv 8 ((v0.add 0).add 0),pv 7 (v0.add 0),iv 3 n,(1,.slice la n m)]) [] (fV b w12 [pv 11 ((v0.add 0).add 1),iv 10 nN,iv 3 n,(1,.slice la n m)]) []:=by cases b<;>cases oa<;>exact fun _ _=>aR (ah 166 12) fun _=>by kernel_rfl
theorem aly(pa:Option χ)(nO pm:Nat):Vf (.slice pa nO pm) (fV b w12 [pv 11 ((v0.add 0).add 1),iv 10 nN,iv 3 n,(1,.slice la n m)]) [] (fV b Vn [bv 18 (decide ((0:Int)<n)),iv 17 0,iv 13 nO,iv 10 nN,iv 3 n,(1,.slice la n m)]) []:=by cases b<;>cases pa<;>exact fun _ _=>aR (aC 166 18) fun _=>by kernel_rfl
theorem adU:Vg (fV b Vn (bv 18 Θ::pf j nO nN n la m)) [] (fV b w19 (pf j nO nN n la m)) []:=by cases b<;>exact fun _ _=>bJ (ah 166 19) fun _=>by kernel_rfl
theorem alz:Vf (θ (Ω pe)) (fV b w19 (pf j nO nN n la m)) [] (fV b QU (pv 19 pe::pf j nO nN n la m)) []:=by cases b<;>exact fun _ _=>aR (ah 166 20) fun _=>by kernel_rfl
theorem alA(ca:χ)(cn cm:Nat)(pe:χ)(k:Int):Vf (.agg #[ε μ k,Γ (Ω ca) cn cm]) (fV b QU (pv 19 pe::pf j nO nN n la m)) [] (fV b Vo (bv 25 (k==0)::iv 21 k::(22,Γ (Ω ca) cn cm)::iv 24 cn::pf j nO nN n la m)) []:=by cases b<;>exact fun _ _=>aR (aC 166 25) fun _=>by kernel_rfl
theorem adV(k:Int):Vf (.agg #[ε μ k,Γ Z9 cn cm]) (fV b QU (pv 19 pe::pf j nO nN n la m)) [] (fV b Vp (bv 41 ((cn:Int) !=0)::iv 21 k::(22,Γ Z9 cn cm)::iv 24 cn::pf j nO nN n la m)) []:=by cases b<;>exact fun _ _=>aR (aC 166 41) fun _=>by kernel_rfl
theorem adW:Vg (fV b Vp (bv 41 Ψ::iv 21 k::(22,Γ Z9 cn cm)::iv 24 cn::pf j nO nN n la m)) [] (fV b Vo (bv 25 (k==0)::iv 21 k::(22,Γ Z9 cn cm)::iv 24 cn::pf j nO nN n la m)) []:=by cases b<;>exact fun _ _=>bJ (aC 166 25) fun _=>by kernel_rfl
theorem adX:Vg (fV b Vo (bv 25 Θ::iv 21 k::cL ca cn cm j nO nN n la m)) [] (fV b Nl (bv 26 (decide ((cn:Int)>4))::cL ca cn cm j nO nN n la m)) []:=by cases b<;>exact fun _ _=>bJ (aC 166 26) fun _=>by kernel_rfl
theorem adY:Vg (fV b Vo (bv 25 Ψ::iv 21 k::cL ca cn cm j nO nN n la m)) [] (fV b Ht (bv 27 (k==1)::iv 21 k::cL ca cn cm j nO nN n la m)) []:=by cases b<;>exact fun _ _=>bJ (aC 166 27) fun _=>by kernel_rfl
theorem Vy:Vg (fV b Ht (bv 27 Θ::iv 21 k::cL ca cn cm j nO nN n la m)) [] (fV b Vq (bv 26 ((cn:Int) !=1)::cL ca cn cm j nO nN n la m)) []:=by cases b<;>exact fun _ _=>bJ (aC 166 26) fun _=>by kernel_rfl
theorem Vz:Vg (fV b Ht (bv 27 Ψ::iv 21 k::cL ca cn cm j nO nN n la m)) [] (fV b Nm (bv 23 (k==2)::iv 21 k::cL ca cn cm j nO nN n la m)) []:=by cases b<;>exact fun _ _=>bJ (aC 166 23) fun _=>by kernel_rfl
theorem VA:Vg (fV b Nm (bv 23 Θ::iv 21 k::cL ca cn cm j nO nN n la m)) [] (fV b Vr (bv 26 ((cn:Int) !=2)::cL ca cn cm j nO nN n la m)) []:=by cases b<;>exact fun _ _=>bJ (aC 166 26) fun _=>by kernel_rfl
theorem adZ:Vg (fV b Nl (bv 26 Ψ::cL ca cn cm j nO nN n la m)) [] (fV b Fv (bv 29 (decide ((0:Int)<cn))::iv 30 0::cL ca cn cm j nO nN n la m)) []:=by cases b<;>exact fun _ _=>bJ (aC 166 29) fun _=>by kernel_rfl
theorem ad0:Vg (fV b Vq (bv 26 Ψ::cL ca cn cm j nO nN n la m)) [] (fV b Fv (bv 29 (decide ((0:Int)<cn))::iv 30 0::cL ca cn cm j nO nN n la m)) []:=by cases b<;>exact fun _ _=>bJ (aC 166 29) fun _=>by kernel_rfl
theorem ad1:Vg (fV b Vr (bv 26 Ψ::cL ca cn cm j nO nN n la m)) [] (fV b Fv (bv 29 (decide ((0:Int)<cn))::iv 30 0::cL ca cn cm j nO nN n la m)) []:=by cases b<;>exact fun _ _=>bJ (aC 166 29) fun _=>by kernel_rfl
theorem ad2:Vg (fV b Fv (bv 29 Θ::iv 30 i::cL ca cn cm j nO nN n la m)) [] (fV b w31 (iv 30 i::cL ca cn cm j nO nN n la m)) []:=by cases b<;>exact fun _ _=>bJ (ah 166 31) fun _=>by kernel_rfl
theorem alD:Vf (θ (Ω pe)) (fV b w31 (iv 30 i::cL ca cn cm j nO nN n la m)) [] (fV b Vs (pv 31 pe::iv 30 i::cL ca cn cm j nO nN n la m)) []:=by cases b<;>exact fun _ _=>aR (ah 166 32) fun _=>by kernel_rfl
theorem alE:Vf (.agg #[ε μ k,ε μ N]) (fV b Vs (pv 31 pe::iv 30 i::cL ca cn cm j nO nN n la m)) [] (fV b w35 (bv 35 (k==0)::iv 33 k::iv 34 N::iv 30 i::cL ca cn cm j nO nN n la m)) []:=by cases b<;>exact fun _ _=>aR (aC 166 35) fun _=>by kernel_rfl
theorem ad3:Vg (fV b w35 (bv 35 Θ::iv 33 k::iv 34 N::iv 30 i::cL ca cn cm j nO nN n la m)) [] (fV b Nn (bv 36 (decide (N< -99))::iv 33 k::iv 34 N::iv 30 i::cL ca cn cm j nO nN n la m)) []:=by cases b<;>exact fun _ _=>bJ (aC 166 36) fun _=>by kernel_rfl
theorem ad4:Vg (fV b Nn (bv 36 Ψ::iv 33 k::iv 34 N::iv 30 i::cL ca cn cm j nO nN n la m)) [] (fV b Vt (bv 37 (decide (N>99))::iv 30 i::cL ca cn cm j nO nN n la m)) []:=by cases b<;>exact fun _ _=>bJ (aC 166 37) fun _=>by kernel_rfl
theorem ad5:Vg (fV b Vt (bv 37 Ψ::iv 30 i::cL ca cn cm j nO nN n la m)) [] (fV b Fv (bv 29 (decide (ψ μ (i+1)<cn))::iv 30 (ψ μ (i+1))::cL ca cn cm j nO nN n la m)) []:=by cases b<;>exact fun _ _=>bJ (aC 166 29) fun _=>by kernel_rfl
theorem ad6:Vg (fV b w35 (bv 35 Ψ::iv 33 k::iv 34 N::iv 30 i::cL ca cn cm j nO nN n la m)) [] (fV b Hu (bv 38 (k==2)::iv 33 k::iv 34 N::iv 30 i::cL ca cn cm j nO nN n la m)) []:=by cases b<;>exact fun _ _=>bJ (aC 166 38) fun _=>by kernel_rfl
theorem VB:Vg (fV b Hu (bv 38 Θ::iv 33 k::iv 34 N::iv 30 i::cL ca cn cm j nO nN n la m)) [] (fV b Vu (bv 36 (N !=0)::iv 30 i::cL ca cn cm j nO nN n la m)) []:=by cases b<;>exact fun _ _=>bJ (aC 166 36) fun _=>by kernel_rfl
theorem ad7:Vg (fV b Vu (bv 36 Ψ::iv 30 i::cL ca cn cm j nO nN n la m)) [] (fV b Fv (bv 29 (decide (ψ μ (i+1)<cn))::iv 30 (ψ μ (i+1))::cL ca cn cm j nO nN n la m)) []:=by cases b<;>exact fun _ _=>bJ (aC 166 29) fun _=>by kernel_rfl
theorem VC:Vg (fV b Hu (bv 38 Ψ::iv 33 k::iv 34 N::iv 30 i::cL ca cn cm j nO nN n la m)) [] (fV b Hv (bv 39 (k==3)::iv 33 k::iv 34 N::iv 30 i::cL ca cn cm j nO nN n la m)) []:=by cases b<;>exact fun _ _=>bJ (aC 166 39) fun _=>by kernel_rfl
theorem VD:Vg (fV b Hv (bv 39 Θ::iv 33 k::iv 34 N::iv 30 i::cL ca cn cm j nO nN n la m)) [] (fV b No (bv 36 (decide (N<0))::iv 33 k::iv 34 N::iv 30 i::cL ca cn cm j nO nN n la m)) []:=by cases b<;>exact fun _ _=>bJ (aC 166 36) fun _=>by kernel_rfl
theorem ad8:Vg (fV b No (bv 36 Ψ::iv 33 k::iv 34 N::iv 30 i::cL ca cn cm j nO nN n la m)) [] (fV b Vv (bv 37 (decide (N>=nN))::iv 30 i::cL ca cn cm j nO nN n la m)) []:=by cases b<;>exact fun _ _=>bJ (aC 166 37) fun _=>by kernel_rfl
theorem ad9:Vg (fV b Vv (bv 37 Ψ::iv 30 i::cL ca cn cm j nO nN n la m)) [] (fV b Fv (bv 29 (decide (ψ μ (i+1)<cn))::iv 30 (ψ μ (i+1))::cL ca cn cm j nO nN n la m)) []:=by cases b<;>exact fun _ _=>bJ (aC 166 29) fun _=>by kernel_rfl
theorem VE:Vg (fV b Np (bv 14 Θ::iv 33 k::iv 34 N::iv 30 i::cL ca cn cm j nO nN n la m)) [] (fV b Nq (bv 36 (decide (N<0))::iv 33 k::iv 34 N::iv 30 i::cL ca cn cm j nO nN n la m)) []:=by cases b<;>exact fun _ _=>bJ (aC 166 36) fun _=>by kernel_rfl
theorem aea:Vg (fV b Nq (bv 36 Ψ::iv 33 k::iv 34 N::iv 30 i::cL ca cn cm j nO nN n la m)) [] (fV b Vw (bv 37 (decide (N>=nO))::iv 30 i::cL ca cn cm j nO nN n la m)) []:=by cases b<;>exact fun _ _=>bJ (aC 166 37) fun _=>by kernel_rfl
theorem aeb:Vg (fV b Vw (bv 37 Ψ::iv 30 i::cL ca cn cm j nO nN n la m)) [] (fV b Fv (bv 29 (decide (ψ μ (i+1)<cn))::iv 30 (ψ μ (i+1))::cL ca cn cm j nO nN n la m)) []:=by cases b<;>exact fun _ _=>bJ (aC 166 29) fun _=>by kernel_rfl
theorem VF:Vg (fV b Hv (bv 39 Ψ::iv 33 k::iv 34 N::iv 30 i::cL ca cn cm j nO nN n la m)) [] (fV b Np (bv 14 (k==4)::iv 33 k::iv 34 N::iv 30 i::cL ca cn cm j nO nN n la m)) []:=by cases b<;>exact fun _ _=>bJ (aC 166 14) fun _=>by kernel_rfl
theorem aec:Vg (fV b Fv (bv 29 Ψ::iv 30 i::cL ca cn cm j nO nN n la m)) [] (fV b Vn [bv 18 (decide (ψ μ (j+1)<n)),iv 17 (ψ μ (j+1)),iv 13 nO,iv 10 nN,iv 3 n,(1,.slice la n m)]) []:=by cases b<;>exact fun _ _=>bJ (aC 166 18) fun _=>by kernel_rfl
theorem aed:Vg (fV b Vn (bv 18 Ψ::pf j nO nN n la m)) [] (fV b wp [bv 15 (decide ((0:Int)<2199023255552)),iv 17 0]) []:=by cases b<;>exact fun _ _=>bJ (aC 166 15) fun _=>by kernel_rfl
theorem Nr:Vg (fV b wp [bv 15 Θ,iv 17 q]) [] (fV b u0 [iv 17 q]) []:=by cases b<;>exact fun _ _=>bJ never fun _=>by kernel_rfl
theorem p_f:Vg (fV b wp [bv 15 Ψ,iv 17 q]) [] {fn:=166,n:=43,T:=Vx,l:=[],mode:=.returning,kind:=jq b} []:=by cases b<;>exact fun _ _=>bJ (lQ 166) fun _=>by kernel_rfl
theorem d_0(h:aQ (fV b u0 [iv 17 q]) [] (c0::cs) g):∃G':Nat->Δ,(∀w:ο,stepG PV Θ g w=.go (G' (w.tape w.drawn (.order 166 100))) {w with drawn:=w.drawn+1} #[])/\∀t,aQ (fV b (.inRegion aE (ω Θ aE t)::r0) [iv 17 q]) [] (c0::cs) (G' t):=by obtain⟨F,rfl⟩:=h;exact⟨fun t=>SC (fV b (.inRegion aE (ω Θ aE t)::r0) [iv 17 q]) [] (c0::cs) F,fun w=>by cases b<;>kernel_rfl,fun t=>⟨F,rfl⟩⟩
theorem alF:Vg (fV b (.inRegion aE [1,0]::r0) [iv 17 q]) [] (fV b x0 [iv 17 q]) []:=by cases b<;>exact fun _ _=>bJ (ah 166 41) fun _=>by kernel_rfl
theorem alG:Vg (fV b (.inRegion aE [0,1]::r0) [iv 17 q]) [] (fV b u1 [iv 17 q]) []:=by cases b<;>exact fun _ _=>bJ never fun _=>by kernel_rfl
theorem alH:Vf (x) (fV b x0 [iv 17 q]) [] (fV b u1 [iv 17 q]) []:=by cases b<;>exact fun _ _=>aR never fun _=>by kernel_rfl
theorem aee:CL (fV b x0 [iv 17 q]) [] (mb 104 (.agg #[])):=by cases b<;>exact fun _ _=>aQ.head fun _=>by kernel_rfl
theorem d_1(h:aQ (fV b u1 [iv 17 q]) [] (c0::cs) g):∃G':Nat->Δ,(∀w:ο,stepG PV Θ g w=.go (G' (w.tape w.drawn (.order 166 101))) {w with drawn:=w.drawn+1} #[])/\∀t,aQ (fV b (.inRegion aE (ω Θ aE t)::r1) [iv 17 q]) [] (c0::cs) (G' t):=by obtain⟨F,rfl⟩:=h;exact⟨fun t=>SC (fV b (.inRegion aE (ω Θ aE t)::r1) [iv 17 q]) [] (c0::cs) F,fun w=>by cases b<;>kernel_rfl,fun t=>⟨F,rfl⟩⟩
theorem alJ:Vg (fV b (.inRegion aE [1,0]::r1) [iv 17 q]) [] (fV b x1 [iv 17 q]) []:=by cases b<;>exact fun _ _=>bJ (ah 166 41) fun _=>by kernel_rfl
theorem alK:Vg (fV b (.inRegion aE [0,1]::r1) [iv 17 q]) [] (fV b u2 [iv 17 q]) []:=by cases b<;>exact fun _ _=>bJ never fun _=>by kernel_rfl
theorem alL:Vf (x) (fV b x1 [iv 17 q]) [] (fV b u2 [iv 17 q]) []:=by cases b<;>exact fun _ _=>aR never fun _=>by kernel_rfl
theorem aef:CL (fV b x1 [iv 17 q]) [] (mb 34 (.agg #[])):=by cases b<;>exact fun _ _=>aQ.head fun _=>by kernel_rfl
theorem d_2(h:aQ (fV b u2 [iv 17 q]) [] (c0::cs) g):∃G':Nat->Δ,(∀w:ο,stepG PV Θ g w=.go (G' (w.tape w.drawn (.order 166 102))) {w with drawn:=w.drawn+1} #[])/\∀t,aQ (fV b (.inRegion aE (ω Θ aE t)::r2) [iv 17 q]) [] (c0::cs) (G' t):=by obtain⟨F,rfl⟩:=h;exact⟨fun t=>SC (fV b (.inRegion aE (ω Θ aE t)::r2) [iv 17 q]) [] (c0::cs) F,fun w=>by cases b<;>kernel_rfl,fun t=>⟨F,rfl⟩⟩
theorem alM:Vg (fV b (.inRegion aE [1,0]::r2) [iv 17 q]) [] (fV b x2 [iv 17 q]) []:=by cases b<;>exact fun _ _=>bJ (ah 166 41) fun _=>by kernel_rfl
theorem alN:Vg (fV b (.inRegion aE [0,1]::r2) [iv 17 q]) [] (fV b u3 [iv 17 q]) []:=by cases b<;>exact fun _ _=>bJ never fun _=>by kernel_rfl
theorem alO:Vf (x) (fV b x2 [iv 17 q]) [] (fV b u3 [iv 17 q]) []:=by cases b<;>exact fun _ _=>aR never fun _=>by kernel_rfl
theorem aeg:CL (fV b x2 [iv 17 q]) [] (mb 83 (.agg #[])):=by cases b<;>exact fun _ _=>aQ.head fun _=>by kernel_rfl
theorem d_3(h:aQ (fV b u3 [iv 17 q]) [] (c0::cs) g):∃G':Nat->Δ,(∀w:ο,stepG PV Θ g w=.go (G' (w.tape w.drawn (.order 166 103))) {w with drawn:=w.drawn+1} #[])/\∀t,aQ (fV b (.inRegion aE (ω Θ aE t)::r3) [iv 17 q]) [] (c0::cs) (G' t):=by obtain⟨F,rfl⟩:=h;exact⟨fun t=>SC (fV b (.inRegion aE (ω Θ aE t)::r3) [iv 17 q]) [] (c0::cs) F,fun w=>by cases b<;>kernel_rfl,fun t=>⟨F,rfl⟩⟩
theorem alP:Vg (fV b (.inRegion aE [1,0]::r3) [iv 17 q]) [] (fV b x3 [iv 17 q]) []:=by cases b<;>exact fun _ _=>bJ (ah 166 41) fun _=>by kernel_rfl
theorem alQ:Vg (fV b (.inRegion aE [0,1]::r3) [iv 17 q]) [] (fV b u4 [iv 17 q]) []:=by cases b<;>exact fun _ _=>bJ never fun _=>by kernel_rfl
theorem alR:Vf (x) (fV b x3 [iv 17 q]) [] (fV b u4 [iv 17 q]) []:=by cases b<;>exact fun _ _=>aR never fun _=>by kernel_rfl
theorem aeh:CL (fV b x3 [iv 17 q]) [] (mb 249 (.agg #[])):=by cases b<;>exact fun _ _=>aQ.head fun _=>by kernel_rfl
theorem d_4(h:aQ (fV b u4 [iv 17 q]) [] (c0::cs) g):∃G':Nat->Δ,(∀w:ο,stepG PV Θ g w=.go (G' (w.tape w.drawn (.order 166 104))) {w with drawn:=w.drawn+1} #[])/\∀t,aQ (fV b (.inRegion aE (ω Θ aE t)::r4) [iv 17 q]) [] (c0::cs) (G' t):=by obtain⟨F,rfl⟩:=h;exact⟨fun t=>SC (fV b (.inRegion aE (ω Θ aE t)::r4) [iv 17 q]) [] (c0::cs) F,fun w=>by cases b<;>kernel_rfl,fun t=>⟨F,rfl⟩⟩
theorem alS:Vg (fV b (.inRegion aE [1,0]::r4) [iv 17 q]) [] (fV b x4 [iv 17 q]) []:=by cases b<;>exact fun _ _=>bJ (ah 166 41) fun _=>by kernel_rfl
theorem alT:Vg (fV b (.inRegion aE [0,1]::r4) [iv 17 q]) [] (fV b u5 [iv 17 q]) []:=by cases b<;>exact fun _ _=>bJ never fun _=>by kernel_rfl
theorem alU:Vf (x) (fV b x4 [iv 17 q]) [] (fV b u5 [iv 17 q]) []:=by cases b<;>exact fun _ _=>aR never fun _=>by kernel_rfl
theorem aei:CL (fV b x4 [iv 17 q]) [] (mb 255 (.agg #[])):=by cases b<;>exact fun _ _=>aQ.head fun _=>by kernel_rfl
theorem d_5(h:aQ (fV b u5 [iv 17 q]) [] (c0::cs) g):∃G':Nat->Δ,(∀w:ο,stepG PV Θ g w=.go (G' (w.tape w.drawn (.order 166 105))) {w with drawn:=w.drawn+1} #[])/\∀t,aQ (fV b (.inRegion aE (ω Θ aE t)::r5) [iv 17 q]) [] (c0::cs) (G' t):=by obtain⟨F,rfl⟩:=h;exact⟨fun t=>SC (fV b (.inRegion aE (ω Θ aE t)::r5) [iv 17 q]) [] (c0::cs) F,fun w=>by cases b<;>kernel_rfl,fun t=>⟨F,rfl⟩⟩
theorem alW:Vg (fV b (.inRegion aE [1,0]::r5) [iv 17 q]) [] (fV b x5 [iv 17 q]) []:=by cases b<;>exact fun _ _=>bJ (ah 166 41) fun _=>by kernel_rfl
theorem alX:Vg (fV b (.inRegion aE [0,1]::r5) [iv 17 q]) [] (fV b u6 [iv 17 q]) []:=by cases b<;>exact fun _ _=>bJ never fun _=>by kernel_rfl
theorem alY:Vf (x) (fV b x5 [iv 17 q]) [] (fV b u6 [iv 17 q]) []:=by cases b<;>exact fun _ _=>aR never fun _=>by kernel_rfl
theorem aej:CL (fV b x5 [iv 17 q]) [] (mb 3 (.agg #[])):=by cases b<;>exact fun _ _=>aQ.head fun _=>by kernel_rfl
theorem d_6(h:aQ (fV b u6 [iv 17 q]) [] (c0::cs) g):∃G':Nat->Δ,(∀w:ο,stepG PV Θ g w=.go (G' (w.tape w.drawn (.order 166 106))) {w with drawn:=w.drawn+1} #[])/\∀t,aQ (fV b (.inRegion aE (ω Θ aE t)::r6) [iv 17 q]) [] (c0::cs) (G' t):=by obtain⟨F,rfl⟩:=h;exact⟨fun t=>SC (fV b (.inRegion aE (ω Θ aE t)::r6) [iv 17 q]) [] (c0::cs) F,fun w=>by cases b<;>kernel_rfl,fun t=>⟨F,rfl⟩⟩
theorem alZ:Vg (fV b (.inRegion aE [1,0]::r6) [iv 17 q]) [] (fV b x6 [iv 17 q]) []:=by cases b<;>exact fun _ _=>bJ (ah 166 41) fun _=>by kernel_rfl
theorem al4:Vg (fV b (.inRegion aE [0,1]::r6) [iv 17 q]) [] (fV b u7 [iv 17 q]) []:=by cases b<;>exact fun _ _=>bJ never fun _=>by kernel_rfl
theorem al6:Vf (x) (fV b x6 [iv 17 q]) [] (fV b u7 [iv 17 q]) []:=by cases b<;>exact fun _ _=>aR never fun _=>by kernel_rfl
theorem aek:CL (fV b x6 [iv 17 q]) [] (mb 76 (.agg #[])):=by cases b<;>exact fun _ _=>aQ.head fun _=>by kernel_rfl
theorem d_7(h:aQ (fV b u7 [iv 17 q]) [] (c0::cs) g):∃G':Nat->Δ,(∀w:ο,stepG PV Θ g w=.go (G' (w.tape w.drawn (.order 166 107))) {w with drawn:=w.drawn+1} #[])/\∀t,aQ (fV b (.inRegion aE (ω Θ aE t)::r7) [iv 17 q]) [] (c0::cs) (G' t):=by obtain⟨F,rfl⟩:=h;exact⟨fun t=>SC (fV b (.inRegion aE (ω Θ aE t)::r7) [iv 17 q]) [] (c0::cs) F,fun w=>by cases b<;>kernel_rfl,fun t=>⟨F,rfl⟩⟩
theorem al7:Vg (fV b (.inRegion aE [1,0]::r7) [iv 17 q]) [] (fV b x7 [iv 17 q]) []:=by cases b<;>exact fun _ _=>bJ (ah 166 41) fun _=>by kernel_rfl
theorem al8:Vg (fV b (.inRegion aE [0,1]::r7) [iv 17 q]) [] (fV b wp [bv 15 (decide (ψ μ (q+1)<2199023255552)),iv 17 (ψ μ (q+1))]) []:=by cases b<;>exact fun _ _=>bJ (aC 166 15) fun _=>by kernel_rfl
theorem al9:Vf (x) (fV b x7 [iv 17 q]) [] (fV b wp [bv 15 (decide (ψ μ (q+1)<2199023255552)),iv 17 (ψ μ (q+1))]) []:=by cases b<;>exact fun _ _=>aR (aC 166 15) fun _=>by kernel_rfl
theorem ael:CL (fV b x7 [iv 17 q]) [] (mb 50 (.agg #[])):=by cases b<;>exact fun _ _=>aQ.head fun _=>by kernel_rfl
theorem ama:CL (fV b w9 [pv 8 ((v0.add 0).add 0),pv 7 (v0.add 0),iv 3 n,(1,.slice la n m)]) [] (bI 22 (θ (Ω ((v0.add 0).add 0)))):=by cases b<;>exact fun _ _=>aQ.head fun _=>by kernel_rfl
theorem aem:CL (fV b w12 [pv 11 ((v0.add 0).add 1),iv 10 nN,iv 3 n,(1,.slice la n m)]) [] (bI 22 (θ (Ω ((v0.add 0).add 1)))):=by cases b<;>exact fun _ _=>aQ.head fun _=>by kernel_rfl
theorem aen:CL (fV b w19 (pf j nO nN n la m)) [] (l9 22 (.slice la n m) (ε μ j)):=by cases b<;>exact fun _ _=>aQ.head fun _=>by kernel_rfl
theorem aeo:CL (fV b QU (pv 19 pe::pf j nO nN n la m)) [] (bI 76 (θ (Ω pe))):=by cases b<;>exact fun _ _=>aQ.head fun _=>by kernel_rfl
theorem aep:CL (fV b w31 (iv 30 i::cL ca cn cm j nO nN n la m)) [] (l9 23 (.slice ca cn cm) (ε μ i)):=by cases b<;>exact fun _ _=>aQ.head fun _=>by kernel_rfl
theorem aeq:CL (fV b Vs (pv 31 pe::iv 30 i::cL ca cn cm j nO nN n la m)) [] (bI 50 (θ (Ω pe))):=by cases b<;>exact fun _ _=>aQ.head fun _=>by kernel_rfl
end
section
def n7:GStep->Bool
 |.ended (.done _) _ _=>Ψ
 |.ended _ _ _=>Θ
 |_=>Ψ
def Hw(g:Δ)(w:ο):Bool:=match g.status with
 |.running=>n7 (stepG PV Θ g w)
 |_=>Ψ
def gy(g:Δ):Prop:=∀w,Hw (bN PV Θ never 400 g) w=Θ
section
variable(b:Bool)(cs:List ζ)(c0:ζ)(g:Δ)
theorem Ns(x0 x1 x2:υ)(h:aQ (fV b KR [(0,x0),(1,x1),(2,x2)]) [] (c0::cs) g):(∃la n m,x1=.slice la n m)\/gy g:=by obtain⟨F,rfl⟩:=h;cases x1<;>first|exact .inl ⟨_,_,_,rfl⟩|(right;intro w;cases b<;>kernel_rfl)
theorem Nt(x0 x2:υ)(la:Option χ)(n m:Nat)(h:aQ (fV b KR [(0,x0),(1,.slice la n m),(2,x2)]) [] (c0::cs) g):(∃room,x2=ε μ room)\/gy g:=by
 obtain⟨F,rfl⟩:=h;cases x2 with
 |int k room=>cases k<;>first|exact .inl ⟨_,rfl⟩|(right;intro w;cases b<;>cases la<;>kernel_rfl)
 |pointer a=>right;intro w;cases a<;>cases b<;>cases la<;>kernel_rfl
 |_=>right;intro w;cases b<;>cases la<;>kernel_rfl
theorem Nu(x0:υ)(la:Option χ)(n m:Nat)(room:Int)(h:aQ (fV b KR [(0,x0),(1,.slice la n m),iv 2 room]) [] (c0::cs) g):(∃v0,x0=θ (Ω v0))\/gy g:=by
 obtain⟨F,rfl⟩:=h;cases x0 with
 |pointer a=>
  cases a with
  |some a=>exact .inl ⟨_,rfl⟩
  |none=>right;intro w;cases b<;>cases la<;>kernel_rfl
 |_=>right;intro w;cases b<;>cases la<;>kernel_rfl
theorem amb(v0:χ)(la:Option χ)(n m:Nat)(x:υ)(h:aQ (fV b w9 [pv 8 ((v0.add 0).add 0),pv 7 (v0.add 0),iv 3 n,(1,.slice la n m)]) [] (c0::cs) g):(∃oa nN om,x=.slice oa nN om)\/gy (fin x g):=by obtain⟨F,rfl⟩:=h;cases x<;>first|exact .inl ⟨_,_,_,rfl⟩|(right;intro w;cases b<;>kernel_rfl)
theorem aer(v0:χ)(la:Option χ)(n m nN:Nat)(x:υ)(h:aQ (fV b w12 [pv 11 ((v0.add 0).add 1),iv 10 nN,iv 3 n,(1,.slice la n m)]) [] (c0::cs) g):(∃oa nN om,x=.slice oa nN om)\/gy (fin x g):=by obtain⟨F,rfl⟩:=h;cases x<;>first|exact .inl ⟨_,_,_,rfl⟩|(right;intro w;cases b<;>kernel_rfl)
theorem VG(la:Option χ)(n m nN nO:Nat)(j:Int)(pe:χ)(x y:υ)(h:aQ (fV b QU [pv 19 pe,iv 17 j,iv 13 nO,iv 10 nN,iv 3 n,(1,.slice la n m)]) [] (c0::cs) g):(∃k,x=ε μ k)\/gy (fin (.agg #[x,y]) g):=by
 obtain⟨F,rfl⟩:=h;cases x with
 |int k room=>cases k<;>first|exact .inl ⟨_,rfl⟩|(right;intro w;cases b<;>kernel_rfl)
 |pointer a=>right;intro w;cases a<;>cases b<;>kernel_rfl
 |_=>right;intro w;cases b<;>kernel_rfl
theorem VH(la:Option χ)(n m nN nO:Nat)(j:Int)(pe:χ)(k:Int)(y:υ)(h:aQ (fV b QU [pv 19 pe,iv 17 j,iv 13 nO,iv 10 nN,iv 3 n,(1,.slice la n m)]) [] (c0::cs) g):(∃ca cn cm,y=.slice ca cn cm)\/gy (fin (.agg #[ε μ k,y]) g):=by obtain⟨F,rfl⟩:=h;cases y<;>first|exact .inl ⟨_,_,_,rfl⟩|(right;intro w;cases b<;>kernel_rfl)
theorem VI(la:Option χ)(n m nN nO:Nat)(j:Int)(ca:Option χ)(cn cm:Nat)(i:Int)(pe:χ)(x y:υ)(h:aQ (fV b Vs [pv 31 pe,iv 30 i,(22,.slice ca cn cm),iv 24 cn,iv 17 j,iv 13 nO,iv 10 nN,iv 3 n,(1,.slice la n m)]) [] (c0::cs) g):(∃k,x=ε μ k)\/gy (fin (.agg #[x,y]) g):=by
 obtain⟨F,rfl⟩:=h;cases x with
 |int k room=>cases k<;>first|exact .inl ⟨_,rfl⟩|(right;intro w;cases b<;>kernel_rfl)
 |pointer a=>right;intro w;cases a<;>cases b<;>kernel_rfl
 |_=>right;intro w;cases b<;>kernel_rfl
theorem VJ(la:Option χ)(n m nN nO:Nat)(j:Int)(ca:Option χ)(cn cm:Nat)(i:Int)(pe:χ)(k:Int)(y:υ)(h:aQ (fV b Vs [pv 31 pe,iv 30 i,(22,.slice ca cn cm),iv 24 cn,iv 17 j,iv 13 nO,iv 10 nN,iv 3 n,(1,.slice la n m)]) [] (c0::cs) g):(∃N,y=ε μ N)\/gy (fin (.agg #[ε μ k,y]) g):=by
 obtain⟨F,rfl⟩:=h;cases y with
 |int k room=>cases k<;>first|exact .inl ⟨_,rfl⟩|(right;intro w;cases b<;>kernel_rfl)
 |pointer a=>right;intro w;cases a<;>cases b<;>kernel_rfl
 |_=>right;intro w;cases b<;>kernel_rfl
theorem aes(v0:χ)(la:Option χ)(n m:Nat)(h:aQ (fV b w4 [bv 4 Θ,iv 3 n,pv 0 v0,(1,.slice la n m)]) [] (c0::cs) g):gy g:=by obtain⟨F,rfl⟩:=h;intro w;cases b<;>kernel_rfl
theorem aet(v0:χ)(la:Option χ)(n m:Nat)(h:aQ (fV b w5 [bv 5 Θ,iv 3 n,pv 0 v0,(1,.slice la n m)]) [] (c0::cs) g):gy g:=by obtain⟨F,rfl⟩:=h;intro w;cases b<;>kernel_rfl
theorem VK(v0:χ)(n m:Nat)(room:Int)(h:aQ (fV b w41 [bv 41 Θ,iv 3 n,pv 0 v0,(1,Γ Z9 n m),iv 2 room]) [] (c0::cs) g):gy g:=by obtain⟨F,rfl⟩:=h;intro w;cases b<;>kernel_rfl
theorem Nv(la:Option χ)(n m nN nO:Nat)(j:Int)(cn cm:Nat)(k:Int)(h:aQ (fV b Vp [bv 41 Θ,iv 21 k,(22,Γ Z9 cn cm),iv 24 cn,iv 17 j,iv 13 nO,iv 10 nN,iv 3 n,(1,.slice la n m)]) [] (c0::cs) g):gy g:=by obtain⟨F,rfl⟩:=h;intro w;cases b<;>kernel_rfl
theorem Nw(la:Option χ)(n m nN nO:Nat)(j:Int)(ca:Option χ)(cn cm:Nat)(h:aQ (fV b Nl [bv 26 Θ,(22,.slice ca cn cm),iv 24 cn,iv 17 j,iv 13 nO,iv 10 nN,iv 3 n,(1,.slice la n m)]) [] (c0::cs) g):gy g:=by obtain⟨F,rfl⟩:=h;intro w;cases b<;>kernel_rfl
theorem Ny(la:Option χ)(n m nN nO:Nat)(j:Int)(ca:Option χ)(cn cm:Nat)(h:aQ (fV b Vq [bv 26 Θ,(22,.slice ca cn cm),iv 24 cn,iv 17 j,iv 13 nO,iv 10 nN,iv 3 n,(1,.slice la n m)]) [] (c0::cs) g):gy g:=by obtain⟨F,rfl⟩:=h;intro w;cases b<;>kernel_rfl
theorem Nz(la:Option χ)(n m nN nO:Nat)(j:Int)(ca:Option χ)(cn cm:Nat)(h:aQ (fV b Vr [bv 26 Θ,(22,.slice ca cn cm),iv 24 cn,iv 17 j,iv 13 nO,iv 10 nN,iv 3 n,(1,.slice la n m)]) [] (c0::cs) g):gy g:=by obtain⟨F,rfl⟩:=h;intro w;cases b<;>kernel_rfl
theorem NA(la:Option χ)(n m nN nO:Nat)(j:Int)(ca:Option χ)(cn cm:Nat)(k:Int)(h:aQ (fV b Nm [bv 23 Ψ,iv 21 k,(22,.slice ca cn cm),iv 24 cn,iv 17 j,iv 13 nO,iv 10 nN,iv 3 n,(1,.slice la n m)]) [] (c0::cs) g):gy g:=by obtain⟨F,rfl⟩:=h;intro w;cases b<;>kernel_rfl
theorem NB(la:Option χ)(n m nN nO:Nat)(j:Int)(ca:Option χ)(cn cm:Nat)(i:Int)(k N:Int)(h:aQ (fV b Nn [bv 36 Θ,iv 33 k,iv 34 N,iv 30 i,(22,.slice ca cn cm),iv 24 cn,iv 17 j,iv 13 nO,iv 10 nN,iv 3 n,(1,.slice la n m)]) [] (c0::cs) g):gy g:=by obtain⟨F,rfl⟩:=h;intro w;cases b<;>kernel_rfl
theorem NC(la:Option χ)(n m nN nO:Nat)(j:Int)(ca:Option χ)(cn cm:Nat)(i:Int)(h:aQ (fV b Vt [bv 37 Θ,iv 30 i,(22,.slice ca cn cm),iv 24 cn,iv 17 j,iv 13 nO,iv 10 nN,iv 3 n,(1,.slice la n m)]) [] (c0::cs) g):gy g:=by obtain⟨F,rfl⟩:=h;intro w;cases b<;>kernel_rfl
theorem ND(la:Option χ)(n m nN nO:Nat)(j:Int)(ca:Option χ)(cn cm:Nat)(i:Int)(h:aQ (fV b Vu [bv 36 Θ,iv 30 i,(22,.slice ca cn cm),iv 24 cn,iv 17 j,iv 13 nO,iv 10 nN,iv 3 n,(1,.slice la n m)]) [] (c0::cs) g):gy g:=by obtain⟨F,rfl⟩:=h;intro w;cases b<;>kernel_rfl
theorem NE(la:Option χ)(n m nN nO:Nat)(j:Int)(ca:Option χ)(cn cm:Nat)(i:Int)(k N:Int)(h:aQ (fV b No [bv 36 Θ,iv 33 k,iv 34 N,iv 30 i,(22,.slice ca cn cm),iv 24 cn,iv 17 j,iv 13 nO,iv 10 nN,iv 3 n,(1,.slice la n m)]) [] (c0::cs) g):gy g:=by obtain⟨F,rfl⟩:=h;intro w;cases b<;>kernel_rfl
theorem NF(la:Option χ)(n m nN nO:Nat)(j:Int)(ca:Option χ)(cn cm:Nat)(i:Int)(h:aQ (fV b Vv [bv 37 Θ,iv 30 i,(22,.slice ca cn cm),iv 24 cn,iv 17 j,iv 13 nO,iv 10 nN,iv 3 n,(1,.slice la n m)]) [] (c0::cs) g):gy g:=by obtain⟨F,rfl⟩:=h;intro w;cases b<;>kernel_rfl
theorem NG(la:Option χ)(n m nN nO:Nat)(j:Int)(ca:Option χ)(cn cm:Nat)(i:Int)(k N:Int)(h:aQ (fV b Nq [bv 36 Θ,iv 33 k,iv 34 N,iv 30 i,(22,.slice ca cn cm),iv 24 cn,iv 17 j,iv 13 nO,iv 10 nN,iv 3 n,(1,.slice la n m)]) [] (c0::cs) g):gy g:=by obtain⟨F,rfl⟩:=h;intro w;cases b<;>kernel_rfl
theorem NH(la:Option χ)(n m nN nO:Nat)(j:Int)(ca:Option χ)(cn cm:Nat)(i:Int)(h:aQ (fV b Vw [bv 37 Θ,iv 30 i,(22,.slice ca cn cm),iv 24 cn,iv 17 j,iv 13 nO,iv 10 nN,iv 3 n,(1,.slice la n m)]) [] (c0::cs) g):gy g:=by obtain⟨F,rfl⟩:=h;intro w;cases b<;>kernel_rfl
theorem NI(la:Option χ)(n m nN nO:Nat)(j:Int)(ca:Option χ)(cn cm:Nat)(i:Int)(k N:Int)(h:aQ (fV b Np [bv 14 Ψ,iv 33 k,iv 34 N,iv 30 i,(22,.slice ca cn cm),iv 24 cn,iv 17 j,iv 13 nO,iv 10 nN,iv 3 n,(1,.slice la n m)]) [] (c0::cs) g):gy g:=by obtain⟨F,rfl⟩:=h;intro w;cases b<;>kernel_rfl
end
end
end Vc
namespace Vc
open Go Go.Conc Ph
open gO (cj bu be h7 Ctx)
section
def Hx(L:bu):ZM->Prop
 |.cells ..=>True
 |.view a _=>a.spot.isSome=Θ
 |.loop l=>(l.fn≠166/\∃fn b,PV.funcs[l.fn]?=Ω fn/\fn.body=Ω b)/\be L Θ l.assign=Θ/\be L Θ l.body=Θ/\∀j,l.pending=Ω j->be L Θ j=Θ
 |.deferred d=>d=Z9\/d=Ω []
 |.map ..|.mapIter ..|.stringIter ..|.number ..=>True
 |_=>False
def Safe(L:bu)(w:ο):Prop:=∀(b:Nat) (o:ZM),w.heap[b]?=Ω o->Hx L o
def aeu(e:Halt):Prop:=(∃s,e=.stuck s)\/∃x,e=.unsupported x/\∀g,x≠.initOrder g
theorem rT{L:bu}{w:ο}(hs:Safe L w)(P:ZK)(a:χ)(at_:Bool):∃e,w.farLoad P a at_=.error e/\aeu e:=by
 unfold World.farLoad;split
 ·rename_i x t b;have h:=hs _ _ b;have e:w.viewLoad P x t a at_=.error "memory seen as another type: a place without cells":=by unfold World.viewLoad;rw[gO.seen_spot _ _ _ _ _ _ h];rfl
  rw[e];exact⟨_,rfl,.inr ⟨_,rfl,by simp⟩⟩
 ·unfold World.noCell;split
  ·rename_i h;exact(hs _ _ h).elim
  ·exact⟨_,rfl,.inr ⟨_,rfl,by simp⟩⟩
  ·exact⟨_,rfl,.inl ⟨_,rfl⟩⟩
section
variable{P:ZK}{main:Bool}{g:Δ}{s:Sem Next}{w w':ο}{es:Array Event}
theorem jS{e:Halt}(h:au g=Ω s)(hr:s.runT P w #[]=(.halt e w',es))(he:aeu e):g.status=.running/\n7 (stepG P main g w)=Θ:=by
 unfold au at h;by_cases b:d9 g=Θ
 ·rw[if_pos b]at h;obtain⟨fr,cs,st,j,off⟩:=g;obtain⟨fn,d,todo,defers,mode,kind,k⟩:=fr;obtain⟨o,a,rfl⟩:=ZO.1 h;obtain⟨rfl,rfl,rfl,rfl,f⟩:st=.running/\j=Z9/\off=Z9/\k=Z9/\(kind==.early)=Ψ:=by unfold d9 at b;dsimp only at b;split at b<;>first|(cases b;done)|exact⟨rfl,rfl,rfl,rfl,rfl⟩
  unfold rC at a;dsimp only at a;cases mode with
  |run=>
   cases todo with
   |nil=>cases a
   |cons i rest=>
    cases i with
    |inRegion c todo=>
     cases todo with
     |nil=>cases a
     |cons i m=>
      dsimp only at a;by_cases hw:(((c[i]?).map (Region.wanted · (yielded c d))).getD Ψ)=Θ
      ·rw[if_pos hw]at a;refine⟨rfl,?_⟩;unfold stepG;dsimp only;unfold stepG.exec;dsimp only;simp only[if_pos hw];unfold stepG.oper;simp only[Frame.oper?,a];unfold stepG.apply;rcases he with⟨s,rfl⟩|⟨x,rfl,l⟩
       ·simp only[if_true,hr,f,ξ,if_false];rfl
       ·simp only[if_true,hr,f,ξ,if_false];cases x<;>first|rfl|exact absurd rfl (l _)
      ·rw[if_neg hw]at a;cases a
    |_=>cases a
  |_=>cases a
 ·rw[if_neg b]at h;cases h
theorem yV{L:bu}{t:κ}{ad:χ}(hs:Safe L w)(h:au g=Ω (bI t (θ (Ω ad))))(ha:ei P t Ψ):(∃v,w.cell? ad=Ω v)\/n7 (stepG P main g w)=Θ:=by
 cases hc:w.cell? ad with
 |some v=>exact .inl ⟨v,rfl⟩
 |none=>right;obtain⟨e,a,b⟩:=rT hs P ad (Go.Mode.plain==.atomic);refine(jS (w':=w) (es:=(bI t (θ (Ω ad))).events P w #[]) h ?_ b).2;rw[Zp];unfold bI Instr.loadAt Instr.sureAddr loadVar;simp[ha.run,hc,a,ZV,load,ZY]
theorem yW{L:bu}{t:κ}{ad:χ}(hs:Safe L w)(h:au g=Ω (bI t (θ (Ω ad))))(ha:ei P t Θ)(hz:dt P t 2):(∃v v',w.cell? (ad.add 0)=Ω v/\w.cell? (ad.add 1)=Ω v')\/n7 (stepG P main g w)=Θ:=by
 cases hc:w.cell? (ad.add 0)with
 |none=>right;obtain⟨e,b,a⟩:=rT hs P (ad.add 0) (Go.Mode.plain==.atomic);refine(jS (w':=w) (es:=(bI t (θ (Ω ad))).events P w #[]) h ?_ a).2;rw[Zp];unfold bI Instr.loadAt Instr.sureAddr loadVar;simp[ha.run,hz.run,hc,b,ZV,loadCells,loadCellsFrom,load,ZY]
 |some v=>
  cases hc':w.cell? (ad.add 1)with
  |some v'=>exact .inl ⟨v,v',rfl,rfl⟩
  |none=>right;obtain⟨e,b,a⟩:=rT hs P (ad.add 1) (Go.Mode.plain==.atomic);refine(jS (w':=w) (es:=(bI t (θ (Ω ad))).events P w #[]) h ?_ a).2;rw[Zp];unfold bI Instr.loadAt Instr.sureAddr loadVar;simp[ha.run,hz.run,hc,hc',b,ZV,loadCells,loadCellsFrom,load,ZY]
end
def dk(g:Δ)(w:ο):Prop:=∃n v w',runN PV n (solo g w)=.ended (.done v) w'
section
variable{g g':Δ}{w w':ο}{S:Δ->Prop}
theorem dk.step{es:Array Event}(h:dk g w)(hr:g.status=.running)(hs:stepG PV Θ g w=.go g' w' es):dk g' w':=by
 obtain⟨n,v,b,a⟩:=h;cases n with
 |zero=>simp only[runN]at a;cases a
 |succ n=>simp only[runN,step_solo_go hr hs]at a;exact⟨n,v,b,a⟩
theorem dk.bad(h:dk g w)(hb:Hw g w=Θ):False:=by
 obtain⟨n,v,e,a⟩:=h;unfold Hw at hb;split at hb
 ·rename_i b;cases n with
  |zero=>simp only[runN]at a;cases a
  |succ n=>
   cases hst:stepG PV Θ g w with
   |ended o c d=>
    simp only[runN,cj b hst]at a;injection a with h1 h2
    subst h1;rw[hst]at hb;cases hb
   |_=>rw[hst]at hb;cases hb
 ·cases hb
theorem dk.path:∀{k:Nat} {g:Δ},dk g w->Path PV Θ k g g'->dk g' w
 |0,g,h,hp=>by have:g'=g:=hp;rw[this];exact h
 |k+1,g,h,hp=>by obtain⟨hr,g1,hst,h1⟩:=hp;exact dk.path (h.step hr (hst w)) h1
theorem dk.to{n:Nat}(h:dk g w)(hp:ak PV Θ n S g):∃g',S g'/\dk g' w:=by obtain⟨k,_,g',a,hs⟩:=hp;exact⟨g',hs,dk.path h a⟩
theorem dk.dies(h:dk g w)(hd:gy g):False:=by obtain⟨a,rfl,b⟩:=h.to (S:=fun a=>a=bN PV Θ never 400 g) (ak.run never 400 rfl);exact b.bad (hd w)
theorem vQ(hr:g.status=.running)(h:n7 (stepG PV Θ g w)=Θ):Hw g w=Θ:=by unfold Hw;rw[hr];exact h
end
theorem De:ei PV 22 Ψ:=fun w a=>by kernel_rfl
theorem QV:ei PV 76 Θ:=fun w a=>by kernel_rfl
theorem Hy:dt PV 76 2:=fun w a=>by kernel_rfl
theorem QW:ei PV 50 Θ:=fun w a=>by kernel_rfl
theorem Hz:dt PV 50 2:=fun w a=>by kernel_rfl
theorem aev:PV.underlying 22=Ω (.slice 76):=by kernel_rfl
theorem aew:PV.underlying 23=Ω (.slice 50):=by kernel_rfl
theorem nrV:bR PV 166 Ψ:=by unfold bR;kernel_rfl
def QX(w:ο)(nN nO:Nat)(ad:χ):Prop:=∃k N,Fu nN nO k N/\w.cell? (ad.add 0)=Ω (ε μ k)/\w.cell? (ad.add 1)=Ω (ε μ N)
def CAt(w:ο)(nN nO:Nat)(ad:χ):Prop:=∃kd ca cn cm,OkK kd cn/\w.cell? (ad.add 0)=Ω (ε μ kd)/\w.cell? (ad.add 1)=Ω (.slice ca cn cm)/\∀i,i<cn->∃a,ca=Ω a/\QX w nN nO (a.add (i*2))
structure amc(w:ο)(x0 x1 x2:υ):Prop where
 ex:∃v0 la n m room nN nO oa om pa pm,x0=θ (Ω v0)/\x1=.slice la n m/\x2=ε μ room/\(n:Int)<=room/\n<=1000000/\w.cell? ((v0.add 0).add 0)=Ω (.slice oa nN om)/\w.cell? ((v0.add 0).add 1)=Ω (.slice pa nO pm)/\∀j,j<n->∃a,la=Ω a/\CAt w nN nO (a.add (j*2))
section
variable{L:bu}{w:ο}{b:Bool}{cs:List ζ}{c0:ζ}{g:Δ}
variable{la:Option χ}{n m nN nO:Nat}
def Df(b:Bool)(la:Option χ)(n m nN nO:Nat)(j:Nat)(ca:Option χ)(cn cm:Nat)(i:Nat)(cs:List ζ)(c0:ζ)(g:Δ):Prop:=aQ (fV b Fv [bv 29 (decide ((i:Int)<cn)),iv 30 i,(22,.slice ca cn cm),iv 24 cn,iv 17 j,iv 13 nO,iv 10 nN,iv 3 n,(1,.slice la n m)]) [] (c0::cs) g
def AtJ(b:Bool)(la:Option χ)(n m nN nO:Nat)(j:Nat)(cs:List ζ)(c0:ζ)(g:Δ):Prop:=aQ (fV b Vn [bv 18 (decide ((j:Int)<n)),iv 17 j,iv 13 nO,iv 10 nN,iv 3 n,(1,.slice la n m)]) [] (c0::cs) g
theorem Dg{i:Nat}(h:i<4000000000000):ψ μ ((i:Int)+1)=((i+1:Nat):Int):=by rw[IntKind.wrap_i64];push_cast;omega
end
end
end Vc
namespace Vc
open Go Go.Conc Ph
open gO (cj bu be h7 Ctx gW bL)
section
section
variable{u0:ο}{g g' g1 g2:Δ}{h h1 h2:Array ZM}
def VW(u0:ο)(g:Δ)(h:Array ZM)(g':Δ)(h':Array ZM):Prop:=∃M δ σ,gW PV u0 M δ σ g h g' h'
theorem VW.refl:VW u0 g h g h:=⟨0,0,fun _ _=>0,gO.gW.refl _ _ _ _ _⟩
theorem VW.trans(a:VW u0 g h g1 h1)(b:VW u0 g1 h1 g2 h2):VW u0 g h g2 h2:=by obtain⟨M,e,i,a⟩:=a;obtain⟨f,d,c,b⟩:=b;exact⟨_,_,_,a.trans b⟩
theorem VW.step(hr:g.status=.running)(hs:∀τ D,∃es,stepG PV Θ g (bL u0 h τ D)=.go g' (bL u0 h1 τ D) es):VW u0 g h g' h1:=by refine⟨1,0,fun _ _=>0,fun τ D _=>?_⟩;obtain⟨es,e⟩:=hs τ D;simp only[runN,step_solo_go hr e];rfl
theorem VW.draw{q:ZQ}{x:Nat}(hr:g.status=.running)(hs:∀τ D,τ D q=x->∃es,stepG PV Θ g (bL u0 h τ D)=.go g' (bL u0 h1 τ (D+1)) es):VW u0 g h g' h1:=by refine⟨1,1,fun _ _=>x,fun τ D a=>?_⟩;obtain⟨es,e⟩:=hs τ D (a 0 q Nat.one_pos);simp only[runN,step_solo_go hr e]
theorem VW.path:∀{k:Nat} {g:Δ},Path PV Θ k g g'->VW u0 g h g' h
 |0,g,hp=>by have:g'=g:=hp;rw[this];exact .refl
 |k+1,g,hp=>by obtain⟨hr,g1,hst,h1⟩:=hp;exact(VW.step hr fun τ D=>⟨_,hst _⟩).trans (VW.path h1)
theorem VW.to{n:Nat}{S:Δ->Prop}(hp:ak PV Θ n S g):∃g',VW u0 g h g' h/\S g':=by obtain⟨k,_,g',a,hs⟩:=hp;exact⟨g',VW.path a,hs⟩
end
section
variable{L:bu}{u0:ο}{h:Array ZM}{T0:Nat->ZQ->Nat}{D0:Nat}{b:Bool}{cs:List ζ}{c0:ζ}{g:Δ}
def AR(u0:ο)(h:Array ZM)(T0:Nat->ZQ->Nat)(D0:Nat)(S:Δ->Prop)(g:Δ):Prop:=∃g',VW u0 g h g' h/\dk g' (bL u0 h T0 D0)/\S g'
variable{S:Δ->Prop}
theorem AR.here(ha:dk g (bL u0 h T0 D0))(hs:S g):AR u0 h T0 D0 S g:=⟨g,.refl,ha,hs⟩
theorem AR.bind{S':Δ->Prop}(hr:AR u0 h T0 D0 S g)(hn:∀g',dk g' (bL u0 h T0 D0) ->S g'->AR u0 h T0 D0 S' g'):AR u0 h T0 D0 S' g:=by obtain⟨d,q1,i,f⟩:=hr;obtain⟨b,c,e,a⟩:=hn d i f;exact⟨b,q1.trans c,e,a⟩
theorem AR.to{n:Nat}{S':Δ->Prop}(ha:dk g (bL u0 h T0 D0))(hp:ak PV Θ n S g)(hn:∀g',dk g' (bL u0 h T0 D0) ->S g'->AR u0 h T0 D0 S' g'):AR u0 h T0 D0 S' g:=by obtain⟨k,_,g',a,hs⟩:=hp;exact AR.bind ⟨g',VW.path a,dk.path ha a,hs⟩ hn
theorem AR.step{n:Nat}{S S':Δ->Prop}{g1:Δ}(ha:dk g (bL u0 h T0 D0))(hr:g.status=.running)(hs:∀τ D,∃es,stepG PV Θ g (bL u0 h τ D)=.go g1 (bL u0 h τ D) es)(hp:ak PV Θ n S g1)(hn:∀g',dk g' (bL u0 h T0 D0) ->S g'->AR u0 h T0 D0 S' g'):AR u0 h T0 D0 S' g:=by obtain⟨es,e⟩:=hs T0 D0;have b:=ha.step hr e;exact AR.bind ⟨g1,VW.step hr hs,b,rfl⟩ fun g' a e=>by subst e;exact AR.to a hp hn
variable{la:Option χ}{n m nN nO:Nat}
theorem AR.cont{g1:Δ}(w:VW u0 g h g1 h)(hr:AR u0 h T0 D0 S g1):AR u0 h T0 D0 S g:=by obtain⟨b,q1,a,c⟩:=hr;exact⟨b,w.trans q1,a,c⟩
theorem NJ(hs:Safe L (bL u0 h T0 D0)){j:Nat}{ca:Option χ}{cn cm i:Nat}(hca:ca=Z9->cn=0)(hi:i<cn)(hi2:i<4000000000000)(ha:dk g (bL u0 h T0 D0))(hg:Df b la n m nN nO j ca cn cm i cs c0 g):
 (∃a,ca=Ω a/\QX (bL u0 h T0 D0) nN nO (a.add (i*2)))/\AR u0 h T0 D0 (Df b la n m nN nO j ca cn cm (i+1) cs c0) g:=by
 obtain⟨a,rfl⟩:∃a,ca=Ω a:=by
  cases ca with
  |none=>have:=hca rfl;omega
  |some a=>exact⟨a,rfl⟩
 unfold Df at hg;rw[show decide ((i:Int)<(cn:Int))=Θ from decide_eq_true (by omega)]at hg;obtain⟨g1,w1,a1,R⟩:=AR.to (S':=fun g=>aQ (fV b w31 [iv 30 i,(22,Γ (Ω a) cn cm),iv 24 cn,iv 17 j,iv 13 nO,iv 10 nN,iv 3 n,(1,.slice la n m)]) [] (c0::cs) g) ha (ad2 b la n m nN nO j (Ω a) cn cm i cs c0 g hg) fun g a h=>AR.here a h
 obtain⟨r,w2,a2,q⟩:=AR.step (S':=fun g=>aQ (fV b Vs [pv 31 (a.add (i*2)),iv 30 i,(22,Γ (Ω a) cn cm),iv 24 cn,iv 17 j,iv 13 nO,iv 10 nN,iv 3 n,(1,.slice la n m)]) [] (c0::cs) g) a1 (aH R) (fun H D=>⟨_,jr (aep b la n m nN nO j (Ω a) cn cm i cs c0 g1 R) aew Hz hi⟩) (alD b la n m nN nO j (Ω a) cn cm i (a.add (i*2)) cs c0 g1 R) fun g a h=>AR.here a h
 have hh:=aeq b la n m nN nO j (Ω a) cn cm i (a.add (i*2)) cs c0 r q;obtain⟨x,y,e1,e2⟩:=(yW (P:=PV) (main:=Θ) hs hh QW Hz).resolve_right fun hb=>a2.bad (vQ (aH q) hb)
 have E:∀H D,∃es,stepG PV Θ r (bL u0 h H D)=.go (fin (.agg #[x,y]) r) (bL u0 h H D) es:=fun H D=>⟨_,jp (w:=bL u0 h H D) hh QW Hz e1 e2 (by rw[q.cg];exact nrV)⟩
 obtain⟨es,M⟩:=E T0 D0;have S:=a2.step (aH q) M;obtain⟨k,rfl⟩:=(VI b cs c0 r la n m nN nO j (Ω a) cn cm i _ x y q).resolve_right fun hd=>S.dies hd
 obtain⟨N,rfl⟩:=(VJ b cs c0 r la n m nN nO j (Ω a) cn cm i _ k y q).resolve_right fun hd=>S.dies hd
 have w3:VW u0 g h (fin (.agg #[ε μ k,ε μ N]) r) h:=(w1.trans w2).trans (VW.step (aH q) E);have B:Fu nN nO k N->AR u0 h T0 D0 (Df b la n m nN nO j (Ω a) cn cm (i+1) cs c0) (fin (.agg #[ε μ k,ε μ N]) r) ->(∃Y,Ω a=Ω Y/\QX (bL u0 h T0 D0) nN nO (Y.add (i*2)))/\AR u0 h T0 D0 (Df b la n m nN nO j (Ω a) cn cm (i+1) cs c0) g:=fun ok hr=>⟨⟨a,rfl,k,N,ok,e1,e2⟩,AR.cont w3 hr⟩
 have next:∀g,aQ (fV b Fv [bv 29 (decide (ψ μ ((i:Int)+1)<cn)),iv 30 (ψ μ ((i:Int)+1)),(22,Γ (Ω a) cn cm),iv 24 cn,iv 17 j,iv 13 nO,iv 10 nN,iv 3 n,(1,.slice la n m)]) [] (c0::cs) g->Df b la n m nN nO j (Ω a) cn cm (i+1) cs c0 g:=fun g h=>by rw[Dg hi2]at h;exact h
 obtain⟨T,V,Z,I⟩:=AR.to (S':=fun g=>aQ (fV b w35 [bv 35 (k==0),iv 33 k,iv 34 N,iv 30 i,(22,Γ (Ω a) cn cm),iv 24 cn,iv 17 j,iv 13 nO,iv 10 nN,iv 3 n,(1,.slice la n m)]) [] (c0::cs) g) S (alE b la n m nN nO j (Ω a) cn cm i k N _ cs c0 r q) fun g a h=>AR.here a h
 suffices d:Fu nN nO k N/\AR u0 h T0 D0 (Df b la n m nN nO j (Ω a) cn cm (i+1) cs c0) T from B d.1 (AR.cont V d.2)
 by_cases Q:k=0
 ·rw[show(k==0)=Θ from by simp[Q]]at I;obtain⟨g5,v,F,o⟩:=AR.to Z (ad3 b la n m nN nO j (Ω a) cn cm i k N cs c0 T I) fun g a h=>AR.here a h
  by_cases c1:N< -99
  ·rw[decide_eq_true c1]at o;exact(F.dies (NB b cs c0 g5 la n m nN nO j (Ω a) cn cm i k N o)).elim
  rw[decide_eq_false c1]at o;obtain⟨f,e,s,c⟩:=AR.to F (ad4 b la n m nN nO j (Ω a) cn cm i k N cs c0 g5 o) fun g a h=>AR.here a h
  by_cases c2:N>99
  ·rw[decide_eq_true c2]at c;exact(s.dies (NC b cs c0 f la n m nN nO j (Ω a) cn cm i c)).elim
  rw[decide_eq_false c2]at c;exact⟨.inl ⟨Q,by omega,by omega⟩,AR.cont v (AR.cont e (AR.to s (ad5 b la n m nN nO j (Ω a) cn cm i cs c0 f c) fun g a h=>AR.here a (next g h)))⟩
 rw[show(k==0)=Ψ from by simp[Q]]at I;obtain⟨g5,v,F,o⟩:=AR.to Z (ad6 b la n m nN nO j (Ω a) cn cm i k N cs c0 T I) fun g a h=>AR.here a h
 suffices d:Fu nN nO k N/\AR u0 h T0 D0 (Df b la n m nN nO j (Ω a) cn cm (i+1) cs c0) g5 from⟨d.1,AR.cont v d.2⟩
 by_cases U:k=2
 ·rw[show(k==2)=Θ from by simp[U]]at o;obtain⟨f,e,s,c⟩:=AR.to F (VB b la n m nN nO j (Ω a) cn cm i k N cs c0 g5 o) fun g a h=>AR.here a h
  by_cases c1:N=0
  ·rw[show(N !=0)=Ψ from by simp[c1]]at c;exact⟨.inr (.inl ⟨U,c1⟩),AR.cont e (AR.to s (ad7 b la n m nN nO j (Ω a) cn cm i cs c0 f c) fun g a h=>AR.here a (next g h))⟩
  ·rw[show(N !=0)=Θ from by simp[c1]]at c;exact(s.dies (ND b cs c0 f la n m nN nO j (Ω a) cn cm i c)).elim
 rw[show(k==2)=Ψ from by simp[U]]at o;obtain⟨f,e,s,c⟩:=AR.to F (VC b la n m nN nO j (Ω a) cn cm i k N cs c0 g5 o) fun g a h=>AR.here a h
 suffices d:Fu nN nO k N/\AR u0 h T0 D0 (Df b la n m nN nO j (Ω a) cn cm (i+1) cs c0) f from⟨d.1,AR.cont e d.2⟩
 by_cases O:k=3
 ·rw[show(k==3)=Θ from by simp[O]]at c;obtain⟨z,t,C,l⟩:=AR.to s (VD b la n m nN nO j (Ω a) cn cm i k N cs c0 f c) fun g a h=>AR.here a h
  by_cases c1:N<0
  ·rw[decide_eq_true c1]at l;exact(C.dies (NE b cs c0 z la n m nN nO j (Ω a) cn cm i k N l)).elim
  rw[decide_eq_false c1]at l;obtain⟨G,u,A,p⟩:=AR.to C (ad8 b la n m nN nO j (Ω a) cn cm i k N cs c0 z l) fun g a h=>AR.here a h
  by_cases c2:N>=nN
  ·rw[decide_eq_true c2]at p;exact(A.dies (NF b cs c0 G la n m nN nO j (Ω a) cn cm i p)).elim
  rw[decide_eq_false c2]at p;exact⟨.inr (.inr (.inl ⟨O,by omega,by omega⟩)),AR.cont t (AR.cont u (AR.to A (ad9 b la n m nN nO j (Ω a) cn cm i cs c0 G p) fun g a h=>AR.here a (next g h)))⟩
 rw[show(k==3)=Ψ from by simp[O]]at c;obtain⟨z,t,C,l⟩:=AR.to s (VF b la n m nN nO j (Ω a) cn cm i k N cs c0 f c) fun g a h=>AR.here a h
 suffices d:Fu nN nO k N/\AR u0 h T0 D0 (Df b la n m nN nO j (Ω a) cn cm (i+1) cs c0) z from⟨d.1,AR.cont t d.2⟩
 by_cases W:k=4
 ·rw[show(k==4)=Θ from by simp[W]]at l;obtain⟨G,u,A,p⟩:=AR.to C (VE b la n m nN nO j (Ω a) cn cm i k N cs c0 z l) fun g a h=>AR.here a h
  by_cases c1:N<0
  ·rw[decide_eq_true c1]at p;exact(A.dies (NG b cs c0 G la n m nN nO j (Ω a) cn cm i k N p)).elim
  rw[decide_eq_false c1]at p;obtain⟨X,K,a9,J⟩:=AR.to A (aea b la n m nN nO j (Ω a) cn cm i k N cs c0 G p) fun g a h=>AR.here a h
  by_cases c2:N>=nO
  ·rw[decide_eq_true c2]at J;exact(a9.dies (NH b cs c0 X la n m nN nO j (Ω a) cn cm i J)).elim
  rw[decide_eq_false c2]at J;exact⟨.inr (.inr (.inr ⟨W,by omega,by omega⟩)),AR.cont u (AR.cont K (AR.to a9 (aeb b la n m nN nO j (Ω a) cn cm i cs c0 X J) fun g a h=>AR.here a (next g h)))⟩
 ·rw[show(k==4)=Ψ from by simp[W]]at l;exact(C.dies (NI b cs c0 z la n m nN nO j (Ω a) cn cm i k N l)).elim
theorem y8(hs:Safe L (bL u0 h T0 D0)){j:Nat}{ca:Option χ}{cn cm:Nat}(hca:ca=Z9->cn=0)(hcn:cn<4000000000000):∀(r i:Nat) (g:Δ),r+i=cn->dk g (bL u0 h T0 D0) ->Df b la n m nN nO j ca cn cm i cs c0 g->
 (∀i',i<=i'->i'<cn->∃a,ca=Ω a/\QX (bL u0 h T0 D0) nN nO (a.add (i'*2)))/\AR u0 h T0 D0 (Df b la n m nN nO j ca cn cm cn cs c0) g
 |0,i,g,hi,ha,hg=>⟨fun i' h1 h2=>by omega,AR.here ha (by rw[show cn=i by omega]at hg⊢;exact hg)⟩
 |r+1,i,g,hi,ha,hg=>by
  obtain⟨q1,g1,w1,a1,h1⟩:=NJ (L:=L) hs hca (by omega) (by omega) ha hg;obtain⟨q2,q3⟩:=y8 hs hca hcn r (i+1) g1 (by omega) a1 h1;refine⟨fun i' p1 p2=>?_,AR.cont w1 q3⟩;by_cases e:i'=i
  ·rw[e];exact q1
  ·exact q2 i' (by omega) p2
end
end
section
section
variable{L:bu}{u0:ο}{h:Array ZM}{T0:Nat->ZQ->Nat}{D0:Nat}{b:Bool}{cs:List ζ}{c0:ζ}{g:Δ}{la:Option χ}{n m nN nO:Nat}
theorem HD(hs:Safe L (bL u0 h T0 D0)){j:Nat}(hla:la=Z9->n=0)(hj:j<n)(hn:n<=1000000)(ha:dk g (bL u0 h T0 D0))(hg:AtJ b la n m nN nO j cs c0 g):
 (∃a,la=Ω a/\CAt (bL u0 h T0 D0) nN nO (a.add (j*2)))/\AR u0 h T0 D0 (AtJ b la n m nN nO (j+1) cs c0) g:=by
 obtain⟨a,rfl⟩:∃a,la=Ω a:=by
  cases la with
  |none=>have:=hla rfl;omega
  |some a=>exact⟨a,rfl⟩
 unfold AtJ at hg;rw[show decide ((j:Int)<(n:Int))=Θ from decide_eq_true (by omega)]at hg;obtain⟨T,X,a1,O⟩:=AR.to ha (adU b (Ω a) n m nN nO j cs c0 g hg) fun g a h=>AR.here a h
 obtain⟨p,w2,W,o⟩:=AR.step a1 (aH O) (fun F D=>⟨_,jr (aen b (Ω a) n m nN nO j cs c0 T O) aev Hy hj⟩) (alz b (Ω a) n m nN nO j (a.add (j*2)) cs c0 T O) fun g a h=>AR.here a h
 have U:=aeo b (Ω a) n m nN nO j (a.add (j*2)) cs c0 p o;obtain⟨x,y,e1,e2⟩:=(yW (P:=PV) (main:=Θ) hs U QV Hy).resolve_right fun hb=>W.bad (vQ (aH o) hb)
 have C:∀F D,∃V,stepG PV Θ p (bL u0 h F D)=.go (fin (.agg #[x,y]) p) (bL u0 h F D) V:=fun F D=>⟨_,jp (w:=bL u0 h F D) U QV Hy e1 e2 (by rw[o.cg];exact nrV)⟩
 obtain⟨V,J⟩:=C T0 D0;have H:=W.step (aH o) J;obtain⟨k,rfl⟩:=(VG b cs c0 p (Ω a) n m nN nO j _ x y o).resolve_right fun hd=>H.dies hd
 obtain⟨ca,cn,c,rfl⟩:=(VH b cs c0 p (Ω a) n m nN nO j _ k y o).resolve_right fun hd=>H.dies hd
 have Y:VW u0 g h (fin (.agg #[ε μ k,.slice ca cn c]) p) h:=(X.trans w2).trans (VW.step (aH o) C);have hk:(ca=Z9->cn=0)/\AR u0 h T0 D0 (fun g=>aQ (fV b Vo [bv 25 (k==0),iv 21 k,(22,.slice ca cn c),iv 24 cn,iv 17 j,iv 13 nO,iv 10 nN,iv 3 n,(1,Γ (Ω a) n m)]) [] (c0::cs) g) (fin (.agg #[ε μ k,.slice ca cn c]) p):=by
  cases ca with
  |some ca=>exact⟨(fun h=>by cases h),AR.to H (alA b (Ω a) n m nN nO j ca cn c _ k cs c0 p o) fun g a h=>AR.here a h⟩
  |none=>
   obtain⟨z,v,E,q⟩:=AR.to H (adV b (Ω a) n m nN nO j cn c _ k cs c0 p o) fun g a h=>AR.here a h
   by_cases A:cn=0
   ·rw[show((cn:Int) !=0)=Ψ from by simp[A]]at q;exact⟨fun _=>A,AR.cont v (AR.to E (adW b (Ω a) n m nN nO j cn c k cs c0 z q) fun g a h=>AR.here a h)⟩
   ·rw[show((cn:Int) !=0)=Θ from by simp;omega]at q;exact(E.dies (Nv b cs c0 z (Ω a) n m nN nO j cn c k q)).elim
 obtain⟨K,z,v,E,q⟩:=hk;have s:OkK k cn/\AR u0 h T0 D0 (Df b (Ω a) n m nN nO j ca cn c 0 cs c0) z:=by
  by_cases N:k=0
  ·rw[show(k==0)=Θ from by simp[N]]at q;obtain⟨g5,e,t,f⟩:=AR.to E (adX b (Ω a) n m nN nO j ca cn c k cs c0 z q) fun g a h=>AR.here a h
   by_cases c1:(cn:Int)>4
   ·rw[decide_eq_true c1]at f;exact(t.dies (Nw b cs c0 g5 (Ω a) n m nN nO j ca cn c f)).elim
   rw[decide_eq_false c1]at f;exact⟨.inl ⟨N,by omega⟩,AR.cont e (AR.to t (adZ b (Ω a) n m nN nO j ca cn c cs c0 g5 f) fun g a h=>AR.here a h)⟩
  rw[show(k==0)=Ψ from by simp[N]]at q;obtain⟨g5,e,t,f⟩:=AR.to E (adY b (Ω a) n m nN nO j ca cn c k cs c0 z q) fun g a h=>AR.here a h
  by_cases I:k=1
  ·rw[show(k==1)=Θ from by simp[I]]at f;obtain⟨r,l,u,d⟩:=AR.to t (Vy b (Ω a) n m nN nO j ca cn c k cs c0 g5 f) fun g a h=>AR.here a h
   by_cases c1:cn=1
   ·rw[show((cn:Int) !=1)=Ψ from by simp[c1]]at d;exact⟨.inr (.inl ⟨I,c1⟩),AR.cont (e.trans l) (AR.to u (ad0 b (Ω a) n m nN nO j ca cn c cs c0 r d) fun g a h=>AR.here a h)⟩
   ·rw[show((cn:Int) !=1)=Θ from by simp;omega]at d;exact(u.dies (Ny b cs c0 r (Ω a) n m nN nO j ca cn c d)).elim
  rw[show(k==1)=Ψ from by simp[I]]at f;obtain⟨r,l,u,d⟩:=AR.to t (Vz b (Ω a) n m nN nO j ca cn c k cs c0 g5 f) fun g a h=>AR.here a h
  by_cases Q:k=2
  ·rw[show(k==2)=Θ from by simp[Q]]at d;obtain⟨S,M,R,G⟩:=AR.to u (VA b (Ω a) n m nN nO j ca cn c k cs c0 r d) fun g a h=>AR.here a h
   by_cases c1:cn=2
   ·rw[show((cn:Int) !=2)=Ψ from by simp[c1]]at G;exact⟨.inr (.inr ⟨Q,c1⟩),AR.cont ((e.trans l).trans M) (AR.to R (ad1 b (Ω a) n m nN nO j ca cn c cs c0 S G) fun g a h=>AR.here a h)⟩
   ·rw[show((cn:Int) !=2)=Θ from by simp;omega]at G;exact(R.dies (Nz b cs c0 S (Ω a) n m nN nO j ca cn c G)).elim
  ·rw[show(k==2)=Ψ from by simp[Q]]at d;exact(u.dies (NA b cs c0 r (Ω a) n m nN nO j ca cn c k d)).elim
 obtain⟨B,g5,e,t,f⟩:=s;have Z:cn<=4:=by rcases B with h|h|h<;>omega
 obtain⟨eT,r,l,u,d⟩:=y8 (L:=L) hs K (by omega) cn 0 g5 (by omega) t f;refine⟨⟨a,rfl,k,ca,cn,c,B,e1,e2,fun i hi=>eT i (Nat.zero_le _) hi⟩,AR.cont (((Y.trans v).trans e).trans l) ?_⟩;unfold Df at d;rw[show decide ((cn:Int)<(cn:Int))=Ψ from decide_eq_false (by omega)]at d;refine AR.to u (aec b (Ω a) n m nN nO j ca cn c cn cs c0 r d) fun g a' h=>AR.here a' ?_
 rw[Dg (by omega)]at h;exact h
theorem uA(hs:Safe L (bL u0 h T0 D0))(hla:la=Z9->n=0)(hn:n<=1000000):∀(r j:Nat) (g:Δ),r+j=n->dk g (bL u0 h T0 D0) ->AtJ b la n m nN nO j cs c0 g->
 (∀j',j<=j'->j'<n->∃a,la=Ω a/\CAt (bL u0 h T0 D0) nN nO (a.add (j'*2)))/\AR u0 h T0 D0 (AtJ b la n m nN nO n cs c0) g
 |0,j,g,hj,ha,hg=>⟨fun j' h1 h2=>by omega,AR.here ha (by rw[show n=j by omega]at hg⊢;exact hg)⟩
 |r+1,j,g,hj,ha,hg=>by
  obtain⟨q1,g1,w1,a1,h1⟩:=HD (L:=L) hs hla (by omega) hn ha hg;obtain⟨q2,q3⟩:=uA hs hla hn r (j+1) g1 (by omega) a1 h1;refine⟨fun j' p1 p2=>?_,AR.cont w1 q3⟩;by_cases e:j'=j
  ·rw[e];exact q1
  ·exact q2 j' (by omega) p2
def QY(b:Bool)(q:Nat)(cs:List ζ)(c0:ζ)(g:Δ):Prop:=aQ (fV b wp [bv 15 (decide ((q:Int)<2199023255552)),iv 17 q]) [] (c0::cs) g
theorem NK(hs:Safe L (bL u0 h T0 D0)){x0 x1 x2:υ}(ha:dk g (bL u0 h T0 D0))(hg:aQ (fV b KR [(0,x0),(1,x1),(2,x2)]) [] (c0::cs) g):amc (bL u0 h T0 D0) x0 x1 x2/\AR u0 h T0 D0 (QY b 0 cs c0) g:=by
 obtain⟨la,n,m,rfl⟩:=(Ns b cs c0 g x0 x1 x2 hg).resolve_right fun hd=>ha.dies hd
 obtain⟨room,rfl⟩:=(Nt b cs c0 g x0 x2 la n m hg).resolve_right fun hd=>ha.dies hd
 obtain⟨v0,rfl⟩:=(Nu b cs c0 g x0 la n m room hg).resolve_right fun hd=>ha.dies hd
 have h0:(la=Z9->n=0)/\AR u0 h T0 D0 (fun g=>aQ (fV b w4 [bv 4 (decide ((n:Int)>room)),iv 3 n,pv 0 v0,(1,.slice la n m)]) [] (c0::cs) g) g:=by
  cases la with
  |some a=>exact⟨(fun h=>by cases h),AR.to ha (s_0 b v0 a n m room cs c0 g hg) fun g a h=>AR.here a h⟩
  |none=>
   obtain⟨e,k,o,c⟩:=AR.to ha (alw b v0 n m room cs c0 g hg) fun g a h=>AR.here a h
   by_cases p:n=0
   ·rw[show((n:Int) !=0)=Ψ from by simp[p]]at c;exact⟨fun _=>p,AR.cont k (AR.to o (alx b v0 n m room cs c0 e c) fun g a h=>AR.here a h)⟩
   ·rw[show((n:Int) !=0)=Θ from by simp;omega]at c;exact(o.dies (VK b cs c0 e v0 n m room c)).elim
 obtain⟨F,M,T,a1,y⟩:=h0;by_cases c1:(n:Int)>room
 ·rw[decide_eq_true c1]at y;exact(a1.dies (aes b cs c0 M v0 la n m y)).elim
 rw[decide_eq_false c1]at y;obtain⟨K,w2,Q,v⟩:=AR.to a1 (s_4 b v0 la n m cs c0 M y) fun g a h=>AR.here a h
 by_cases c2:(n:Int)>1000000
 ·rw[decide_eq_true c2]at v;exact(Q.dies (aet b cs c0 K v0 la n m v)).elim
 rw[decide_eq_false c2]at v;obtain⟨u,U,C,i⟩:=AR.to Q (s_5 b v0 la n m cs c0 K v) fun g a h=>AR.here a h
 have N:=ama b v0 la n m cs c0 u i;obtain⟨x,e1⟩:=(yV (P:=PV) (main:=Θ) hs N De).resolve_right fun hb=>C.bad (vQ (aH i) hb)
 have r:∀d D,∃z,stepG PV Θ u (bL u0 h d D)=.go (fin x u) (bL u0 h d D) z:=fun d D=>⟨_,du (q:=Ψ) (w:=bL u0 h d D) N De e1 (by rw[i.cg];exact nrV)⟩
 obtain⟨z,A⟩:=r T0 D0;have B:=C.step (aH i) A;obtain⟨O,l,R,rfl⟩:=(amb b cs c0 u v0 la n m x i).resolve_right fun hd=>B.dies hd
 obtain⟨e,k,o,c⟩:=AR.step C (aH i) r (s_9 b v0 la n m O l R cs c0 u i) fun g a h=>AR.here a h
 have s:=aem b v0 la n m l cs c0 e c;obtain⟨x,e2⟩:=(yV (P:=PV) (main:=Θ) hs s De).resolve_right fun hb=>o.bad (vQ (aH c) hb)
 have f:∀d D,∃z,stepG PV Θ e (bL u0 h d D)=.go (fin x e) (bL u0 h d D) z:=fun d D=>⟨_,du (q:=Ψ) (w:=bL u0 h d D) s De e2 (by rw[c.cg];exact nrV)⟩
 obtain⟨Z,t⟩:=f T0 D0;have E:=o.step (aH c) t;obtain⟨pa,nO,J,rfl⟩:=(aer b cs c0 e v0 la n m l x c).resolve_right fun hd=>E.dies hd
 obtain⟨g5,H,W,V⟩:=AR.step o (aH c) f (aly b v0 la n m l pa nO J cs c0 e c) fun g a h=>AR.here a h
 obtain⟨cells,S,I,X,G⟩:=uA (L:=L) hs F (by omega) n 0 g5 (by omega) W V;refine⟨⟨v0,la,n,m,room,l,nO,O,R,pa,J,rfl,rfl,rfl,by omega,by omega,e1,e2,fun j Y=>cells j (Nat.zero_le _) Y⟩,AR.cont (((((T.trans w2).trans U).trans k).trans H).trans I) ?_⟩;unfold AtJ at G;rw[show decide ((n:Int)<(n:Int))=Ψ from decide_eq_false (by omega)]at G;exact AR.to X (aed b la n m l nO n cs c0 S G) fun g a h=>AR.here a h
end
end
section
theorem za:ω Θ aE 0=[0,1]:=by kernel_rfl
theorem zb:ω Θ aE 1=[1,0]:=by kernel_rfl
def row(t:κ):ZM:=.cells #[] t
section
variable{u0:ο}{h:Array ZM}{b:Bool}{cs:List ζ}{c0:ζ}{g:Δ}
theorem iU{t:κ}{g:Δ}(hr:g.status=.running)(hh:au g=Ω (mb t (.agg #[]))):VW u0 g h (fin (pz h.size) g) (h.push (row t)):=VW.step hr fun a D=>⟨_,rI (w:=bL u0 h a D) hh⟩
theorem pO{q:Nat}(hg:aQ (fV b Vc.u0 [iv 17 q]) [] (c0::cs) g):∃g',VW u0 g h g' h/\(fun g=>aQ (fV b u1 [iv 17 q]) [] (c0::cs) g) g':=by
 obtain⟨f,j,i⟩:=d_0 b q cs c0 g hg;have c:=i 0;rw[za]at c;have d:VW u0 g h (f 0) h:=VW.draw (q:=.order 166 100) (x:=0) (aH hg) fun a D e=>⟨#[],by have:=j (bL u0 h a D);rw[show(bL u0 h a D).tape (bL u0 h a D).drawn (.order 166 100)=0 from e]at this;exact this⟩
 obtain⟨g',k,h⟩:=VW.to (u0:=u0) (h:=h) (alG b q cs c0 _ c);exact⟨g',d.trans k,h⟩
theorem aey{q:Nat}(hg:aQ (fV b Vc.u0 [iv 17 q]) [] (c0::cs) g):∃g',VW u0 g h g' (h.push (row 104))/\(fun g=>aQ (fV b u1 [iv 17 q]) [] (c0::cs) g) g':=by
 obtain⟨j,m,k⟩:=d_0 b q cs c0 g hg;have f:=k 1;rw[zb]at f;have i:VW u0 g h (j 1) h:=VW.draw (q:=.order 166 100) (x:=1) (aH hg) fun c D e=>⟨#[],by have:=m (bL u0 h c D);rw[show(bL u0 h c D).tape (bL u0 h c D).drawn (.order 166 100)=1 from e]at this;exact this⟩
 obtain⟨d,n,a⟩:=VW.to (u0:=u0) (h:=h) (alF b q cs c0 _ f);have l:=iU (u0:=u0) (h:=h) (aH a) (aee b q cs c0 d a);obtain⟨g',w4,h⟩:=VW.to (u0:=u0) (h:=h.push (row 104)) (alH b q _ cs c0 d a);exact⟨g',((i.trans n).trans l).trans w4,h⟩
theorem pP{q:Nat}(hg:aQ (fV b u1 [iv 17 q]) [] (c0::cs) g):∃g',VW u0 g h g' h/\(fun g=>aQ (fV b u2 [iv 17 q]) [] (c0::cs) g) g':=by
 obtain⟨f,j,i⟩:=d_1 b q cs c0 g hg;have c:=i 0;rw[za]at c;have d:VW u0 g h (f 0) h:=VW.draw (q:=.order 166 101) (x:=0) (aH hg) fun a D e=>⟨#[],by have:=j (bL u0 h a D);rw[show(bL u0 h a D).tape (bL u0 h a D).drawn (.order 166 101)=0 from e]at this;exact this⟩
 obtain⟨g',k,h⟩:=VW.to (u0:=u0) (h:=h) (alK b q cs c0 _ c);exact⟨g',d.trans k,h⟩
theorem aez{q:Nat}(hg:aQ (fV b u1 [iv 17 q]) [] (c0::cs) g):∃g',VW u0 g h g' (h.push (row 34))/\(fun g=>aQ (fV b u2 [iv 17 q]) [] (c0::cs) g) g':=by
 obtain⟨j,m,k⟩:=d_1 b q cs c0 g hg;have f:=k 1;rw[zb]at f;have i:VW u0 g h (j 1) h:=VW.draw (q:=.order 166 101) (x:=1) (aH hg) fun c D e=>⟨#[],by have:=m (bL u0 h c D);rw[show(bL u0 h c D).tape (bL u0 h c D).drawn (.order 166 101)=1 from e]at this;exact this⟩
 obtain⟨d,n,a⟩:=VW.to (u0:=u0) (h:=h) (alJ b q cs c0 _ f);have l:=iU (u0:=u0) (h:=h) (aH a) (aef b q cs c0 d a);obtain⟨g',w4,h⟩:=VW.to (u0:=u0) (h:=h.push (row 34)) (alL b q _ cs c0 d a);exact⟨g',((i.trans n).trans l).trans w4,h⟩
theorem pQ{q:Nat}(hg:aQ (fV b u2 [iv 17 q]) [] (c0::cs) g):∃g',VW u0 g h g' h/\(fun g=>aQ (fV b u3 [iv 17 q]) [] (c0::cs) g) g':=by
 obtain⟨f,j,i⟩:=d_2 b q cs c0 g hg;have c:=i 0;rw[za]at c;have d:VW u0 g h (f 0) h:=VW.draw (q:=.order 166 102) (x:=0) (aH hg) fun a D e=>⟨#[],by have:=j (bL u0 h a D);rw[show(bL u0 h a D).tape (bL u0 h a D).drawn (.order 166 102)=0 from e]at this;exact this⟩
 obtain⟨g',k,h⟩:=VW.to (u0:=u0) (h:=h) (alN b q cs c0 _ c);exact⟨g',d.trans k,h⟩
theorem aeA{q:Nat}(hg:aQ (fV b u2 [iv 17 q]) [] (c0::cs) g):∃g',VW u0 g h g' (h.push (row 83))/\(fun g=>aQ (fV b u3 [iv 17 q]) [] (c0::cs) g) g':=by
 obtain⟨j,m,k⟩:=d_2 b q cs c0 g hg;have f:=k 1;rw[zb]at f;have i:VW u0 g h (j 1) h:=VW.draw (q:=.order 166 102) (x:=1) (aH hg) fun c D e=>⟨#[],by have:=m (bL u0 h c D);rw[show(bL u0 h c D).tape (bL u0 h c D).drawn (.order 166 102)=1 from e]at this;exact this⟩
 obtain⟨d,n,a⟩:=VW.to (u0:=u0) (h:=h) (alM b q cs c0 _ f);have l:=iU (u0:=u0) (h:=h) (aH a) (aeg b q cs c0 d a);obtain⟨g',w4,h⟩:=VW.to (u0:=u0) (h:=h.push (row 83)) (alO b q _ cs c0 d a);exact⟨g',((i.trans n).trans l).trans w4,h⟩
theorem pR{q:Nat}(hg:aQ (fV b u3 [iv 17 q]) [] (c0::cs) g):∃g',VW u0 g h g' h/\(fun g=>aQ (fV b u4 [iv 17 q]) [] (c0::cs) g) g':=by
 obtain⟨f,j,i⟩:=d_3 b q cs c0 g hg;have c:=i 0;rw[za]at c;have d:VW u0 g h (f 0) h:=VW.draw (q:=.order 166 103) (x:=0) (aH hg) fun a D e=>⟨#[],by have:=j (bL u0 h a D);rw[show(bL u0 h a D).tape (bL u0 h a D).drawn (.order 166 103)=0 from e]at this;exact this⟩
 obtain⟨g',k,h⟩:=VW.to (u0:=u0) (h:=h) (alQ b q cs c0 _ c);exact⟨g',d.trans k,h⟩
theorem aeB{q:Nat}(hg:aQ (fV b u3 [iv 17 q]) [] (c0::cs) g):∃g',VW u0 g h g' (h.push (row 249))/\(fun g=>aQ (fV b u4 [iv 17 q]) [] (c0::cs) g) g':=by
 obtain⟨j,m,k⟩:=d_3 b q cs c0 g hg;have f:=k 1;rw[zb]at f;have i:VW u0 g h (j 1) h:=VW.draw (q:=.order 166 103) (x:=1) (aH hg) fun c D e=>⟨#[],by have:=m (bL u0 h c D);rw[show(bL u0 h c D).tape (bL u0 h c D).drawn (.order 166 103)=1 from e]at this;exact this⟩
 obtain⟨d,n,a⟩:=VW.to (u0:=u0) (h:=h) (alP b q cs c0 _ f);have l:=iU (u0:=u0) (h:=h) (aH a) (aeh b q cs c0 d a);obtain⟨g',w4,h⟩:=VW.to (u0:=u0) (h:=h.push (row 249)) (alR b q _ cs c0 d a);exact⟨g',((i.trans n).trans l).trans w4,h⟩
theorem pS{q:Nat}(hg:aQ (fV b u4 [iv 17 q]) [] (c0::cs) g):∃g',VW u0 g h g' h/\(fun g=>aQ (fV b u5 [iv 17 q]) [] (c0::cs) g) g':=by
 obtain⟨f,j,i⟩:=d_4 b q cs c0 g hg;have c:=i 0;rw[za]at c;have d:VW u0 g h (f 0) h:=VW.draw (q:=.order 166 104) (x:=0) (aH hg) fun a D e=>⟨#[],by have:=j (bL u0 h a D);rw[show(bL u0 h a D).tape (bL u0 h a D).drawn (.order 166 104)=0 from e]at this;exact this⟩
 obtain⟨g',k,h⟩:=VW.to (u0:=u0) (h:=h) (alT b q cs c0 _ c);exact⟨g',d.trans k,h⟩
theorem aeC{q:Nat}(hg:aQ (fV b u4 [iv 17 q]) [] (c0::cs) g):∃g',VW u0 g h g' (h.push (row 255))/\(fun g=>aQ (fV b u5 [iv 17 q]) [] (c0::cs) g) g':=by
 obtain⟨j,m,k⟩:=d_4 b q cs c0 g hg;have f:=k 1;rw[zb]at f;have i:VW u0 g h (j 1) h:=VW.draw (q:=.order 166 104) (x:=1) (aH hg) fun c D e=>⟨#[],by have:=m (bL u0 h c D);rw[show(bL u0 h c D).tape (bL u0 h c D).drawn (.order 166 104)=1 from e]at this;exact this⟩
 obtain⟨d,n,a⟩:=VW.to (u0:=u0) (h:=h) (alS b q cs c0 _ f);have l:=iU (u0:=u0) (h:=h) (aH a) (aei b q cs c0 d a);obtain⟨g',w4,h⟩:=VW.to (u0:=u0) (h:=h.push (row 255)) (alU b q _ cs c0 d a);exact⟨g',((i.trans n).trans l).trans w4,h⟩
theorem pT{q:Nat}(hg:aQ (fV b u5 [iv 17 q]) [] (c0::cs) g):∃g',VW u0 g h g' h/\(fun g=>aQ (fV b u6 [iv 17 q]) [] (c0::cs) g) g':=by
 obtain⟨f,j,i⟩:=d_5 b q cs c0 g hg;have c:=i 0;rw[za]at c;have d:VW u0 g h (f 0) h:=VW.draw (q:=.order 166 105) (x:=0) (aH hg) fun a D e=>⟨#[],by have:=j (bL u0 h a D);rw[show(bL u0 h a D).tape (bL u0 h a D).drawn (.order 166 105)=0 from e]at this;exact this⟩
 obtain⟨g',k,h⟩:=VW.to (u0:=u0) (h:=h) (alX b q cs c0 _ c);exact⟨g',d.trans k,h⟩
theorem aeD{q:Nat}(hg:aQ (fV b u5 [iv 17 q]) [] (c0::cs) g):∃g',VW u0 g h g' (h.push (row 3))/\(fun g=>aQ (fV b u6 [iv 17 q]) [] (c0::cs) g) g':=by
 obtain⟨j,m,k⟩:=d_5 b q cs c0 g hg;have f:=k 1;rw[zb]at f;have i:VW u0 g h (j 1) h:=VW.draw (q:=.order 166 105) (x:=1) (aH hg) fun c D e=>⟨#[],by have:=m (bL u0 h c D);rw[show(bL u0 h c D).tape (bL u0 h c D).drawn (.order 166 105)=1 from e]at this;exact this⟩
 obtain⟨d,n,a⟩:=VW.to (u0:=u0) (h:=h) (alW b q cs c0 _ f);have l:=iU (u0:=u0) (h:=h) (aH a) (aej b q cs c0 d a);obtain⟨g',w4,h⟩:=VW.to (u0:=u0) (h:=h.push (row 3)) (alY b q _ cs c0 d a);exact⟨g',((i.trans n).trans l).trans w4,h⟩
theorem pU{q:Nat}(hg:aQ (fV b u6 [iv 17 q]) [] (c0::cs) g):∃g',VW u0 g h g' h/\(fun g=>aQ (fV b u7 [iv 17 q]) [] (c0::cs) g) g':=by
 obtain⟨f,j,i⟩:=d_6 b q cs c0 g hg;have c:=i 0;rw[za]at c;have d:VW u0 g h (f 0) h:=VW.draw (q:=.order 166 106) (x:=0) (aH hg) fun a D e=>⟨#[],by have:=j (bL u0 h a D);rw[show(bL u0 h a D).tape (bL u0 h a D).drawn (.order 166 106)=0 from e]at this;exact this⟩
 obtain⟨g',k,h⟩:=VW.to (u0:=u0) (h:=h) (al4 b q cs c0 _ c);exact⟨g',d.trans k,h⟩
theorem aeE{q:Nat}(hg:aQ (fV b u6 [iv 17 q]) [] (c0::cs) g):∃g',VW u0 g h g' (h.push (row 76))/\(fun g=>aQ (fV b u7 [iv 17 q]) [] (c0::cs) g) g':=by
 obtain⟨j,m,k⟩:=d_6 b q cs c0 g hg;have f:=k 1;rw[zb]at f;have i:VW u0 g h (j 1) h:=VW.draw (q:=.order 166 106) (x:=1) (aH hg) fun c D e=>⟨#[],by have:=m (bL u0 h c D);rw[show(bL u0 h c D).tape (bL u0 h c D).drawn (.order 166 106)=1 from e]at this;exact this⟩
 obtain⟨d,n,a⟩:=VW.to (u0:=u0) (h:=h) (alZ b q cs c0 _ f);have l:=iU (u0:=u0) (h:=h) (aH a) (aek b q cs c0 d a);obtain⟨g',w4,h⟩:=VW.to (u0:=u0) (h:=h.push (row 76)) (al6 b q _ cs c0 d a);exact⟨g',((i.trans n).trans l).trans w4,h⟩
theorem pV{q:Nat}(hq:q<4000000000000)(hg:aQ (fV b u7 [iv 17 q]) [] (c0::cs) g):∃g',VW u0 g h g' h/\(QY b (q+1) cs c0) g':=by
 obtain⟨f,j,i⟩:=d_7 b q cs c0 g hg;have c:=i 0;rw[za]at c;have d:VW u0 g h (f 0) h:=VW.draw (q:=.order 166 107) (x:=0) (aH hg) fun a D e=>⟨#[],by have:=j (bL u0 h a D);rw[show(bL u0 h a D).tape (bL u0 h a D).drawn (.order 166 107)=0 from e]at this;exact this⟩
 obtain⟨g',k,h⟩:=VW.to (u0:=u0) (h:=h) (al8 b q cs c0 _ c);exact⟨g',d.trans k,(by rw[Dg hq]at h;exact h)⟩
theorem aeF{q:Nat}(hq:q<4000000000000)(hg:aQ (fV b u7 [iv 17 q]) [] (c0::cs) g):∃g',VW u0 g h g' (h.push (row 50))/\(QY b (q+1) cs c0) g':=by
 obtain⟨j,m,k⟩:=d_7 b q cs c0 g hg;have f:=k 1;rw[zb]at f;have i:VW u0 g h (j 1) h:=VW.draw (q:=.order 166 107) (x:=1) (aH hg) fun c D e=>⟨#[],by have:=m (bL u0 h c D);rw[show(bL u0 h c D).tape (bL u0 h c D).drawn (.order 166 107)=1 from e]at this;exact this⟩
 obtain⟨d,n,a⟩:=VW.to (u0:=u0) (h:=h) (al7 b q cs c0 _ f);have l:=iU (u0:=u0) (h:=h) (aH a) (ael b q cs c0 d a);obtain⟨g',w4,h⟩:=VW.to (u0:=u0) (h:=h.push (row 50)) (al9 b q _ cs c0 d a);exact⟨g',((i.trans n).trans l).trans w4,(by rw[Dg hq]at h;exact h)⟩
theorem rnd(q:Nat)(hq:q<4000000000000)(hg:aQ (fV b wp [bv 15 Θ,iv 17 q]) [] (c0::cs) g):(∃g',VW u0 g h g' h/\QY b (q+1) cs c0 g')/\∀t∈[104,34,83,249,255,3,76,50],∃g',VW u0 g h g' (h.push (row t))/\QY b (q+1) cs c0 g':=by
 refine⟨?_,fun t z=>?_⟩
 ·obtain⟨g0,n,h0⟩:=VW.to (u0:=u0) (h:=h) (Nr b q cs c0 g hg);obtain⟨x,a,i⟩:=pO (u0:=u0) (h:=h) h0;obtain⟨u,r,c⟩:=pP (u0:=u0) (h:=h) i;obtain⟨y,d,o⟩:=pQ (u0:=u0) (h:=h) c;obtain⟨w,w4,f⟩:=pR (u0:=u0) (h:=h) o;obtain⟨g5,w5,k⟩:=pS (u0:=u0) (h:=h) f;obtain⟨s,e,p⟩:=pT (u0:=u0) (h:=h) k;obtain⟨v,w7,j⟩:=pU (u0:=u0) (h:=h) p;obtain⟨l,w8,m⟩:=pV (u0:=u0) (h:=h) hq j;exact⟨l,((((((((n.trans a).trans r).trans d).trans w4).trans w5).trans e).trans w7).trans w8),m⟩
 ·simp only[ZN,ZR,or_false]at z;rcases z with rfl|rfl|rfl|rfl|rfl|rfl|rfl|rfl
  ·obtain⟨g0,n,h0⟩:=VW.to (u0:=u0) (h:=h) (Nr b q cs c0 g hg);obtain⟨x,a,i⟩:=aey (u0:=u0) (h:=h) h0;obtain⟨u,r,c⟩:=pP (u0:=u0) (h:=h.push (row 104)) i;obtain⟨y,d,o⟩:=pQ (u0:=u0) (h:=h.push (row 104)) c;obtain⟨w,w4,f⟩:=pR (u0:=u0) (h:=h.push (row 104)) o;obtain⟨g5,w5,k⟩:=pS (u0:=u0) (h:=h.push (row 104)) f;obtain⟨s,e,p⟩:=pT (u0:=u0) (h:=h.push (row 104)) k;obtain⟨v,w7,j⟩:=pU (u0:=u0) (h:=h.push (row 104)) p;obtain⟨l,w8,m⟩:=pV (u0:=u0) (h:=h.push (row 104)) hq j;exact⟨l,((((((((n.trans a).trans r).trans d).trans w4).trans w5).trans e).trans w7).trans w8),m⟩
  ·obtain⟨g0,n,h0⟩:=VW.to (u0:=u0) (h:=h) (Nr b q cs c0 g hg);obtain⟨x,a,i⟩:=pO (u0:=u0) (h:=h) h0;obtain⟨u,r,c⟩:=aez (u0:=u0) (h:=h) i;obtain⟨y,d,o⟩:=pQ (u0:=u0) (h:=h.push (row 34)) c;obtain⟨w,w4,f⟩:=pR (u0:=u0) (h:=h.push (row 34)) o;obtain⟨g5,w5,k⟩:=pS (u0:=u0) (h:=h.push (row 34)) f;obtain⟨s,e,p⟩:=pT (u0:=u0) (h:=h.push (row 34)) k;obtain⟨v,w7,j⟩:=pU (u0:=u0) (h:=h.push (row 34)) p;obtain⟨l,w8,m⟩:=pV (u0:=u0) (h:=h.push (row 34)) hq j;exact⟨l,((((((((n.trans a).trans r).trans d).trans w4).trans w5).trans e).trans w7).trans w8),m⟩
  ·obtain⟨g0,n,h0⟩:=VW.to (u0:=u0) (h:=h) (Nr b q cs c0 g hg);obtain⟨x,a,i⟩:=pO (u0:=u0) (h:=h) h0;obtain⟨u,r,c⟩:=pP (u0:=u0) (h:=h) i;obtain⟨y,d,o⟩:=aeA (u0:=u0) (h:=h) c;obtain⟨w,w4,f⟩:=pR (u0:=u0) (h:=h.push (row 83)) o;obtain⟨g5,w5,k⟩:=pS (u0:=u0) (h:=h.push (row 83)) f;obtain⟨s,e,p⟩:=pT (u0:=u0) (h:=h.push (row 83)) k;obtain⟨v,w7,j⟩:=pU (u0:=u0) (h:=h.push (row 83)) p;obtain⟨l,w8,m⟩:=pV (u0:=u0) (h:=h.push (row 83)) hq j;exact⟨l,((((((((n.trans a).trans r).trans d).trans w4).trans w5).trans e).trans w7).trans w8),m⟩
  ·obtain⟨g0,n,h0⟩:=VW.to (u0:=u0) (h:=h) (Nr b q cs c0 g hg);obtain⟨x,a,i⟩:=pO (u0:=u0) (h:=h) h0;obtain⟨u,r,c⟩:=pP (u0:=u0) (h:=h) i;obtain⟨y,d,o⟩:=pQ (u0:=u0) (h:=h) c;obtain⟨w,w4,f⟩:=aeB (u0:=u0) (h:=h) o;obtain⟨g5,w5,k⟩:=pS (u0:=u0) (h:=h.push (row 249)) f;obtain⟨s,e,p⟩:=pT (u0:=u0) (h:=h.push (row 249)) k;obtain⟨v,w7,j⟩:=pU (u0:=u0) (h:=h.push (row 249)) p;obtain⟨l,w8,m⟩:=pV (u0:=u0) (h:=h.push (row 249)) hq j;exact⟨l,((((((((n.trans a).trans r).trans d).trans w4).trans w5).trans e).trans w7).trans w8),m⟩
  ·obtain⟨g0,n,h0⟩:=VW.to (u0:=u0) (h:=h) (Nr b q cs c0 g hg);obtain⟨x,a,i⟩:=pO (u0:=u0) (h:=h) h0;obtain⟨u,r,c⟩:=pP (u0:=u0) (h:=h) i;obtain⟨y,d,o⟩:=pQ (u0:=u0) (h:=h) c;obtain⟨w,w4,f⟩:=pR (u0:=u0) (h:=h) o;obtain⟨g5,w5,k⟩:=aeC (u0:=u0) (h:=h) f;obtain⟨s,e,p⟩:=pT (u0:=u0) (h:=h.push (row 255)) k;obtain⟨v,w7,j⟩:=pU (u0:=u0) (h:=h.push (row 255)) p;obtain⟨l,w8,m⟩:=pV (u0:=u0) (h:=h.push (row 255)) hq j;exact⟨l,((((((((n.trans a).trans r).trans d).trans w4).trans w5).trans e).trans w7).trans w8),m⟩
  ·obtain⟨g0,n,h0⟩:=VW.to (u0:=u0) (h:=h) (Nr b q cs c0 g hg);obtain⟨x,a,i⟩:=pO (u0:=u0) (h:=h) h0;obtain⟨u,r,c⟩:=pP (u0:=u0) (h:=h) i;obtain⟨y,d,o⟩:=pQ (u0:=u0) (h:=h) c;obtain⟨w,w4,f⟩:=pR (u0:=u0) (h:=h) o;obtain⟨g5,w5,k⟩:=pS (u0:=u0) (h:=h) f;obtain⟨s,e,p⟩:=aeD (u0:=u0) (h:=h) k;obtain⟨v,w7,j⟩:=pU (u0:=u0) (h:=h.push (row 3)) p;obtain⟨l,w8,m⟩:=pV (u0:=u0) (h:=h.push (row 3)) hq j;exact⟨l,((((((((n.trans a).trans r).trans d).trans w4).trans w5).trans e).trans w7).trans w8),m⟩
  ·obtain⟨g0,n,h0⟩:=VW.to (u0:=u0) (h:=h) (Nr b q cs c0 g hg);obtain⟨x,a,i⟩:=pO (u0:=u0) (h:=h) h0;obtain⟨u,r,c⟩:=pP (u0:=u0) (h:=h) i;obtain⟨y,d,o⟩:=pQ (u0:=u0) (h:=h) c;obtain⟨w,w4,f⟩:=pR (u0:=u0) (h:=h) o;obtain⟨g5,w5,k⟩:=pS (u0:=u0) (h:=h) f;obtain⟨s,e,p⟩:=pT (u0:=u0) (h:=h) k;obtain⟨v,w7,j⟩:=aeE (u0:=u0) (h:=h) p;obtain⟨l,w8,m⟩:=pV (u0:=u0) (h:=h.push (row 76)) hq j;exact⟨l,((((((((n.trans a).trans r).trans d).trans w4).trans w5).trans e).trans w7).trans w8),m⟩
  ·obtain⟨g0,n,h0⟩:=VW.to (u0:=u0) (h:=h) (Nr b q cs c0 g hg);obtain⟨x,a,i⟩:=pO (u0:=u0) (h:=h) h0;obtain⟨u,r,c⟩:=pP (u0:=u0) (h:=h) i;obtain⟨y,d,o⟩:=pQ (u0:=u0) (h:=h) c;obtain⟨w,w4,f⟩:=pR (u0:=u0) (h:=h) o;obtain⟨g5,w5,k⟩:=pS (u0:=u0) (h:=h) f;obtain⟨s,e,p⟩:=pT (u0:=u0) (h:=h) k;obtain⟨v,w7,j⟩:=pU (u0:=u0) (h:=h) p;obtain⟨l,w8,m⟩:=aeF (u0:=u0) (h:=h) hq j;exact⟨l,((((((((n.trans a).trans r).trans d).trans w4).trans w5).trans e).trans w7).trans w8),m⟩
def dV(h:Array ZM)(l:List κ):Array ZM:=l.foldl (fun h t=>h.push (row t)) h
theorem amd:∀(r q:Nat) (l:List κ) (h:Array ZM) (g:Δ),r+q=2199023255552->l.length<=r->(∀t∈l,t∈[104,34,83,249,255,3,76,50]) ->QY b q cs c0 g->∃g',VW u0 g h g' (dV h l)/\aQ {fn:=166,n:=43,T:=Vx,l:=[],mode:=.returning,kind:=jq b} [] (c0::cs) g':=by
 intro r
 induction r with
 |zero=>intro q l h g p o j a;have:l=[]:=List.length_eq_zero_iff.1 (by omega);subst this;unfold QY at a;rw[show decide ((q:Int)<2199023255552)=Ψ from decide_eq_false (by omega)]at a;exact VW.to (p_f b q cs c0 g a)
 |succ r m=>
  intro q l h g p o j a;unfold QY at a;rw[show decide ((q:Int)<2199023255552)=Θ from decide_eq_true (by omega)]at a;obtain⟨r0,r1⟩:=rnd (u0:=u0) (h:=h) q (by omega) a;cases l with
  |nil=>obtain⟨e,d,i⟩:=r0;obtain⟨c,k,f⟩:=m (q+1) [] h e (by omega) (Nat.zero_le _) (by simp) i;exact⟨c,d.trans k,f⟩
  |cons t l=>obtain⟨e,d,i⟩:=r1 t (j t List.mem_cons_self);obtain⟨c,k,f⟩:=m (q+1) l (h.push (row t)) e (by omega) (by simp at o;omega) (fun x s=>j x (Zy _ s)) i;exact⟨c,d.trans k,f⟩
theorem ame(b:Bool)(tmps:Array υ)(T:List Zq)(c0:ζ)(cs:List ζ)(w:ο):stepG PV Θ (G {fn:=166,tmps,todo:=T,defers:=[],mode:=.returning,kind:=jq b} (c0::cs)) w=.go (G (mZ (jq b) c0) cs) w #[]:=by cases b<;>kernel_rfl
end
end
end Vc
namespace Vc
open Go Go.Conc Ph
open gO (cj bu be h7 Ctx gW bL qE Live pL Node OkG aJ HR Rel mL mT Move)
open Go.ConcM (OsLater)
section
variable(b:Bool){L:bu}{a:χ}{w:ο}(args:Array υ)
def cV(L:bu):Ctx where
 ok:=Hx L
 S:=fun _=>False
 T:=P0.toTables
 F:=PV.funcs
 G:=P0.funcs
 K0:=⟨fun _ _ _=>trivial,fun _ _ h=>h⟩
 map:=fun _ _=>trivial
 mapIter:=fun _ _ _ _=>trivial
 stringIter:=fun _ _=>trivial
 number:=fun _ _=>trivial
 tX:=fun k=>be L Θ k=Θ
 okF:=fun f=>f≠166/\∃fn b,PV.funcs[f]?=Ω fn/\fn.body=Ω b
 loop:=fun _=>Iff.rfl
 deferred:=fun _=>Iff.rfl
theorem Bq(L:bu):(cV L).T.globals.size=1:=by show P0.globals.size=1;kernel_rfl
def jT(args:Array υ):Array υ:=args++Array.replicate (43-args.size) undef
theorem HQ(kd:CallKind):φ PV 166 args kd={fn:=166,tmps:=jT args,todo:=KR,defers:=[],mode:=.run,kind:=kd}:=by kernel_rfl
theorem VL(kd:CallKind):φ P0 166 args kd={fn:=166,tmps:=jT args,todo:=tk0,defers:=[],mode:=.run,kind:=kd}:=by kernel_rfl
theorem vR{args:Array υ}(h:args.size<=43):(jT args).size=43:=by simp[jT];omega
theorem zc{args:Array υ}(h:43<args.size):jT args=args:=by unfold jT;rw[show 43-args.size=0 by omega];simp
theorem zd{T:List Zq}{tmps:Array υ}(hs:tmps.size=43)(c0:ζ)(cs:List ζ):aQ {fn:=166,n:=43,T:=T,l:=[(0,tmps.getD 0 undef),(1,tmps.getD 1 undef),(2,tmps.getD 2 undef)],kind:=jq b} [] (c0::cs) (G {fn:=166,tmps,todo:=T,defers:=[],mode:=.run,kind:=jq b} (c0::cs)):=by refine aQ.of rfl ?_ rfl;show [tmps.size]=[43];rw[hs]
theorem HU(h:43<args.size)(c0:ζ)(cs:List ζ):gy (G {fn:=166,tmps:=args,todo:=KR,defers:=[],mode:=.run,kind:=jq b} (c0::cs)):=by
 obtain⟨l⟩:=args;rcases l with _|⟨x0,l⟩
 ·simp at h
 rcases l with _|⟨x1,l⟩
 ·simp at h
 rcases l with _|⟨x2,l⟩
 ·simp at h
 rcases l with _|⟨x3,l⟩
 ·simp at h
 rcases l with _|⟨x4,l⟩
 ·simp at h
 rcases l with _|⟨x5,l⟩
 ·simp at h
 rcases l with _|⟨x6,l⟩
 ·simp at h
 rcases l with _|⟨x7,l⟩
 ·simp at h
 rcases l with _|⟨O,l⟩
 ·simp at h
 rcases l with _|⟨N,l⟩
 ·simp at h
 rcases l with _|⟨F,l⟩
 ·simp at h
 rcases l with _|⟨f,l⟩
 ·simp at h
 rcases l with _|⟨r,l⟩
 ·simp at h
 rcases l with _|⟨z,l⟩
 ·simp at h
 rcases l with _|⟨J,l⟩
 ·simp at h
 rcases l with _|⟨g,l⟩
 ·simp at h
 rcases l with _|⟨I,l⟩
 ·simp at h
 rcases l with _|⟨K,l⟩
 ·simp at h
 rcases l with _|⟨y,l⟩
 ·simp at h
 rcases l with _|⟨e,l⟩
 ·simp at h
 rcases l with _|⟨k,l⟩
 ·simp at h
 rcases l with _|⟨u,l⟩
 ·simp at h
 rcases l with _|⟨t,l⟩
 ·simp at h
 rcases l with _|⟨c,l⟩
 ·simp at h
 rcases l with _|⟨L,l⟩
 ·simp at h
 rcases l with _|⟨s,l⟩
 ·simp at h
 rcases l with _|⟨m,l⟩
 ·simp at h
 rcases l with _|⟨D,l⟩
 ·simp at h
 rcases l with _|⟨p,l⟩
 ·simp at h
 rcases l with _|⟨A,l⟩
 ·simp at h
 rcases l with _|⟨n,l⟩
 ·simp at h
 rcases l with _|⟨i,l⟩
 ·simp at h
 rcases l with _|⟨v,l⟩
 ·simp at h
 rcases l with _|⟨q,l⟩
 ·simp at h
 rcases l with _|⟨j,l⟩
 ·simp at h
 rcases l with _|⟨o,l⟩
 ·simp at h
 rcases l with _|⟨H,l⟩
 ·simp at h
 rcases l with _|⟨x,l⟩
 ·simp at h
 rcases l with _|⟨C,l⟩
 ·simp at h
 rcases l with _|⟨a,l⟩
 ·simp at h
 rcases l with _|⟨B,l⟩
 ·simp at h
 rcases l with _|⟨M,l⟩
 ·simp at h
 rcases l with _|⟨d,l⟩
 ·simp at h
 rcases l with _|⟨E,l⟩
 ·simp at h
 intro w;cases b<;>kernel_rfl
theorem cell_of{u0:ο}{h:Array ZM}{S:Nat->Prop}(hR:HR (cV L) u0 S h w){T0:Nat->ZQ->Nat}{D0:Nat}{v:υ}(hc:(bL u0 h T0 D0).cell? a=Ω v):
 ∃cs e f,w.heap[a.block]?=Ω (.cells cs e f)/\a.spot=Z9/\cs[a.off]?=Ω v/\¬S a.block/\a.block<w.heap.size:=by
 have b:(bL u0 h w.tape w.drawn).cell? a=Ω v:=hc;have c:=hR 0;obtain⟨g,d,i⟩:=gO.Rel.cell c b;obtain⟨cs,e,f,q1,k,j⟩:=gO.qR g;refine⟨cs,e,f,q1,by simpa using k,j,d,?_⟩;have:=c.size;rw[this];exact i
theorem pW{Sh Sh':Loc->Prop}{B:Nat}{t:Trace}(h:Past Sh B t)(hs:∀l,Sh l->Sh' l):Past Sh' B t:=⟨h.clean,fun i a b c=>(h.known i a b c).imp id fun q=>⟨hs _ q.1,q.2⟩,h.over,h.hears,h.seen⟩
theorem g9:∀(k i:Nat),cU (fun _=>0) k i=Z9
 |0,_=>rfl
 |k+1,i=>by rw[cU,if_neg (by simp)];exact g9 k (i+1)
theorem pX:∀(l:List κ) (h:Array ZM),(dV h l).size=h.size+l.length
 |[],h=>rfl
 |t::l,h=>by have:=pX l (h.push (row t));simp only[dV,ZX,List.length_cons,Array.size_push]at this⊢;omega
theorem jU:∀(l:List κ) (h:Array ZM) (b:Nat),b<h.size->(dV h l)[b]?=h[b]?
 |[],h,b,hb=>rfl
 |t::l,h,b,hb=>by have:=jU l (h.push (row t)) b (by simp;omega);simp only[dV,ZX]at this⊢;rw[this,Array.getElem?_push_lt hb,Array.getElem?_eq_getElem hb]
theorem uB:∀(l:List κ) (h:Array ZM) (i:Nat) (t:κ),l[i]?=Ω t->(dV h l)[h.size+i]?=Ω (row t)
 |[],h,i,t,hi=>by simp at hi
 |t'::l,h,i,t,hi=>by
  cases i with
  |zero=>simp only[Z2,Z7]at hi;subst hi;have:=jU l (h.push (row t')) h.size (by simp);simp only[dV,ZX,Nat.add_zero]at this⊢;rw[this,Array.getElem?_push_size]
  |succ i=>have:=uB l (h.push (row t')) i t (by simpa using hi);simp only[dV,ZX,Array.size_push]at this⊢;rw[show h.size+(i+1)=h.size+1+i by omega];exact this
theorem zf{a b:Os}(h:OsLater a b):b.env=a.env:=by obtain⟨d,rfl⟩:=h;rfl
theorem NL{c:Ctx}{sp:ZT}{c0:ζ}(h:aJ c L sp c0)(b:Bool):aJ c L sp (mZ (jq b) c0):=by
 cases b with
 |false=>exact h.finish _
 |true=>
  show aJ c L sp (match c0.mode with
   |.panicking ({recovered:=Θ,..}::older)=>
    match older.dropWhile (!·.goexit)with
    |[]=>{c0 with mode:=.returning}
    |rest=>{c0 with mode:=.panicking rest}
   |_=>c0)
  split
  ·split
   ·exact h.mode _
   ·exact h.mode _
  ·exact h
def TTl:List κ:=[104,34,83,249,255,3,76,50]
theorem Br{nN nO n:Nat}(hc:∀j,j<n->CAt w nN nO (a.add (j*2))):∃(kd:Nat->Int) (ca:Nat->Option χ) (cn cm:Nat->Nat),∀j,j<n->OkK (kd j) (cn j)/\w.cell? ((a.add (j*2)).add 0)=Ω (ε μ (kd j))/\w.cell? ((a.add (j*2)).add 1)=Ω (.slice (ca j) (cn j) (cm j))/\
 ∀i,i<cn j->∃a',ca j=Ω a'/\QX w nN nO (a'.add (i*2)):=by
 have h:∀j,∃q:Int×Option χ×Nat×Nat,j<n->OkK q.1 q.2.2.1/\w.cell? ((a.add (j*2)).add 0)=Ω (ε μ q.1)/\w.cell? ((a.add (j*2)).add 1)=Ω (.slice q.2.1 q.2.2.1 q.2.2.2)/\∀i,i<q.2.2.1->∃a',q.2.1=Ω a'/\QX w nN nO (a'.add (i*2)):=by
  intro j;by_cases b:j<n
  ·obtain⟨kd,ca,cn,cm,g,d,k,e⟩:=hc j b;exact⟨⟨kd,ca,cn,cm⟩,fun _=>⟨g,d,k,e⟩⟩
  ·exact⟨⟨0,Z9,0,0⟩,fun h=>absurd h b⟩
 obtain⟨f,c⟩:=Classical.axiomOfChoice h;exact⟨fun j=>(f j).1,fun j=>(f j).2.1,fun j=>(f j).2.2.1,fun j=>(f j).2.2.2,c⟩
theorem EE{nN nO n:Nat}(hc:∀i,i<n->QX w nN nO (a.add (i*2))):∃(vk vn:Nat->Int),∀i,i<n->Fu nN nO (vk i) (vn i)/\w.cell? ((a.add (i*2)).add 0)=Ω (ε μ (vk i))/\w.cell? ((a.add (i*2)).add 1)=Ω (ε μ (vn i)):=by
 have h:∀i,∃q:Int×Int,i<n->Fu nN nO q.1 q.2/\w.cell? ((a.add (i*2)).add 0)=Ω (ε μ q.1)/\w.cell? ((a.add (i*2)).add 1)=Ω (ε μ q.2):=by
  intro i;by_cases hi:i<n
  ·obtain⟨k,N,d,c,e⟩:=hc i hi;exact⟨⟨k,N⟩,fun _=>⟨d,c,e⟩⟩
  ·exact⟨⟨0,0⟩,fun h=>absurd h hi⟩
 obtain⟨f,b⟩:=Classical.axiomOfChoice h;exact⟨fun i=>(f i).1,fun i=>(f i).2,b⟩
theorem ph(a:χ)(n k:Nat):((a.add n).add k).block=a.block/\((a.add n).add k).off=a.off+n+k:=by unfold Addr.add;by_cases c:n=0<;>by_cases b:k=0<;>simp[c,b]
theorem vS{u0:ο}{h:Array ZM}{S:Nat->Prop}(hR:HR (cV L) u0 S h w){T0:Nat->ZQ->Nat}{D0:Nat}{i:Nat}{v v':υ}(h1:(bL u0 h T0 D0).cell? ((a.add (i*2)).add 0)=Ω v)(h2:(bL u0 h T0 D0).cell? ((a.add (i*2)).add 1)=Ω v'):
 a.block<w.heap.size/\¬S a.block/\(i=0->a.spot=Z9)/\∃cs e f,w.heap[a.block]?=Ω (.cells cs e f)/\cs[a.off+i*2]?=Ω v/\cs[a.off+i*2+1]?=Ω v':=by
 obtain⟨cs,e,f,q1,l,g,d,j⟩:=cell_of hR h1;obtain⟨k,q,p,b,o,c,n,m⟩:=cell_of hR h2;obtain⟨e1,e2⟩:=ph a (i*2) 0;obtain⟨e3,e4⟩:=ph a (i*2) 1;rw[e1]at q1 d j;rw[e2]at g;rw[e3]at b;rw[e4]at c;rw[q1]at b;cases b
 exact⟨j,d,fun h0=>by subst h0;exact l,cs,e,f,q1,g,c⟩
end
theorem rU:∀(l:List κ) (h:Array ZM) (b:Nat) (o:ZM),(dV h l)[b]?=Ω o->h[b]?=Ω o\/∃t,o=row t
 |[],h,b,o,hb=>.inl hb
 |t::l,h,b,o,hb=>by
  rcases rU l (h.push (row t)) b o hb with hx|hx
  ·rw[Array.getElem?_push]at hx;split at hx
   ·exact .inr ⟨t,(ZJ hx).symm⟩
   ·exact .inl hx
  ·exact .inr hx
theorem add_zero'(a:χ):(a.add 0).add 0=a:=by simp[Addr.add]
theorem H7{L:bu}{u0:ο}{Post:υ->Array ZM->Prop}:qE (cV L) L 166 u0 Post:=by
 intro u kd cs h gs w sl t q S hk hcs I X hg0 hL hP M hos;obtain⟨hkd,hne⟩:=hk;obtain⟨b,rfl⟩:∃b,kd=jq b:=by
  rcases hkd with rfl|rfl
  ·exact⟨Ψ,rfl⟩
  ·exact⟨Θ,rfl⟩
 obtain⟨c0,d,rfl⟩:=ZP hne;obtain⟨T0,D0,_,he⟩:=X fun _ _=>0
 have ha:dk (G (φ PV 166 u (jq b)) (c0::d)) (bL u0 h T0 D0):=by obtain⟨n,v,s,O,_⟩:=he;exact⟨n,v,s,O⟩
 rw[HQ]at ha;by_cases V:43<u.size
 ·rw[zc V]at ha;exact(ha.dies (HU b u V c0 d)).elim
 have Q:=vR (args:=u) (by omega);obtain⟨hpre,g2,hw2,ha2,hp2⟩:=NK (L:=L) I ha (zd b Q c0 d);obtain⟨v0,la,n,m,room,nN,nO,oa,om,pa,pm,e0,e1,e2,hroom,hn,hv1,hv2,B⟩:=hpre.ex;have hsz0:w.heap.size=h.size:=(M 0).size;have e00:(v0.add 0).add 0=v0:=add_zero' v0;obtain⟨amf,amg⟩:=ph v0 0 1;obtain⟨q1,f1,f1',a1,a2,a3,a4,a5⟩:=cell_of M hv1;obtain⟨q2,f2,f2',d1,d2,d3,d4,d5⟩:=cell_of M hv2;rw[e00]at a1 a2 a3 a4 a5;rw[amf]at d1 d4 d5;rw[amg,Nat.add_zero]at d3;rw[a1]at d1;cases d1
 have hpos:1<=w.heap.size:=by omega
 obtain⟨a,hla,hca⟩:∃a,(∀j,j<n->la=Ω a)/\∀j,j<n->CAt (bL u0 h T0 D0) nN nO (a.add (j*2)):=by
  by_cases hz:0<n
  ·obtain⟨a,E,_⟩:=B 0 hz;refine⟨a,fun _ _=>E,fun j z=>?_⟩;obtain⟨a',J,hc⟩:=B j z;rw[E]at J;cases J
   exact hc
  ·exact⟨v0,fun j z=>absurd z (by omega),fun j z=>absurd z (by omega)⟩
 obtain⟨kd,ca,cn,cm,H⟩:=Br hca
 let K:PC:={ca:=la,n,m,b,c0,cs:=d,p0:=gs.size,B0:=w.heap.size,h0:=w.heap,v0,v1:=fun j=>ε μ (kd j),v2:=fun j=>.slice (ca j) (cn j) (cm j),ev:=fun _=>0,S,TT:=fun e=>e∈TTl,C:=14}
 have hSB:∀b,S b->b<w.heap.size:=by
  intro b hb;rcases(M 0).mask b hb with⟨c,e,_,f,g⟩|g
  ·exact(η.1 g).1
  ·rw[hsz0];exact(η.1 g).1
 have hA:dX K:=by
  refine⟨fun j z cs1 hc1=>?_,fun j z=>⟨rfl,rfl⟩,?_,?_,rfl,fun j z=>?_,hSB,?_⟩
  ·obtain⟨W0,rest,rfl⟩:=ZP hc1;obtain⟨ok,O,Z,h3⟩:=H j z;obtain⟨a',amh,hva⟩:∃a',(∀i,i<cn j->ca j=Ω a')/\∀i,i<cn j->QX (bL u0 h T0 D0) nN nO (a'.add (i*2)):=by
    by_cases hz:0<cn j
    ·obtain⟨a',E,_⟩:=h3 0 hz;refine⟨a',fun _ _=>E,fun i hi=>?_⟩;obtain⟨a'',J,hc⟩:=h3 i hi;rw[E]at J;cases J
     exact hc
    ·exact⟨v0,fun j z=>absurd z (by omega),fun j z=>absurd z (by omega)⟩
   obtain⟨vk,vn,hvs⟩:=EE hva;refine⟨60000,Bo (K:=K.pk) (v0:=v0) (W0:=W0) (rest:=rest) (nN:=nN) (nO:=nO) (b0:=v0.block) (o0:=v0.off) (n:=cn j) (m:=cm j) (ca:=ca j) (kd:=kd j) (vk:=vk) (vn:=vn) ⟨?_,?_,?_⟩ (Nat.le_refl _) ?_ ⟨a5,a4,⟨_,_,_,_,_,_,_,a1,a3,d3⟩⟩ ok fun i hi=>?_⟩
   ·show 50∈TTl
    decide
   ·show 34∈TTl
    decide
   ·show 76∈TTl
    decide
   ·obtain⟨vb,vo,vs⟩:=v0;cases a2
    rfl
   ·obtain⟨ov,p1,p2⟩:=hvs i hi;obtain⟨o1,o2,o3⟩:=hvs 0 (by omega);obtain⟨r1,r2,r3,r4⟩:=vS M p1 p2;obtain⟨s1,s2,s3,s4⟩:=vS M o2 o3;exact⟨ov,a',amh i hi,s3 rfl,r1,r2,r4⟩
  ·show n<1048576;omega
  ·exact(η.1 hg0).1
  ·obtain⟨ok,O,Z,h3⟩:=H j z;obtain⟨_,o2,o3,_⟩:=H 0 (show 0<n by have:j<n:=z;omega);obtain⟨r1,r2,r3,r4⟩:=vS M O Z;obtain⟨s1,s2,s3,s4⟩:=vS M o2 o3;exact⟨a,hla j z,r1,r2,s3 rfl,r4⟩
  ·refine⟨?_,?_,?_,?_,?_,?_,?_⟩<;>(show _∈TTl;decide)
 have hat:=zd (T:=tk0) b Q c0 d;rw[e0,e1,e2]at hat
 obtain⟨N,gs',s,sl',t',q',hrun,hg',hL',hP',y⟩:=Ey (K:=K) (room:=room) (sl:=sl) hA (show ¬((n:Int)>room) by omega) rfl rfl (g0:=G {fn:=166,tmps:=jT u,todo:=tk0,defers:=[],mode:=.run,kind:=jq b} (c0::d)) hat (by rw[<-VL];exact hg0) hL hP;rw[show cU K.ev K.n 0=Z9 from g9 _ _]at hg'
 let R:Nat->κ:=fun b=>match s.heap[b]? with
  |some (.cells _ e _)=>e
  |_=>104
 let l:List κ:=(List.range (s.heap.size-w.heap.size)).map fun i=>R (w.heap.size+i)
 have hge:w.heap.size+5<=s.heap.size:=y.size;have hty:∀b,w.heap.size<=b->b<s.heap.size->∃cs f,s.heap[b]?=Ω (.cells cs (R b) f)/\R b∈TTl:=by
  intro b O Z;obtain⟨cs,e,f,g,hm⟩:=y.rows b O Z;have:R b=e:=by simp only[R,g]
  exact⟨cs,f,by rw[this];exact g,by rw[this];exact hm⟩
 have hll:l.length=s.heap.size-w.heap.size:=by simp[l]
 have hfew:s.heap.size<=w.heap.size+5+n*(14+2):=y.wW;obtain⟨g3,hw3,F,rfl⟩:=amd (u0:=u0) (b:=b) (c0:=c0) (cs:=d) 2199023255552 0 l h g2 rfl (by omega) (fun t ht=>by obtain⟨i,hi,rfl⟩:=List.mem_map.1 ht;have hi:=List.mem_range.1 hi;obtain⟨_,_,_,hm⟩:=hty (w.heap.size+i) (by omega) (by omega);exact hm) hp2
 have hlast:gW PV u0 1 0 (fun _ _=>0) _ (dV h l) (G (mZ (jq b) c0) d) (dV h l):=fun τ D _=>by have:=ame b (l7 43 (cO [] (F 0))) Vx c0 d (bL u0 (dV h l) τ D);simp only[runN];rw[step_solo_go rfl this];rfl
 have A:pL (cV L) (dV h l):=by
  intro b o hb;rcases rU _ _ _ _ hb with g|⟨t,rfl⟩
  ·exact I b o g
  ·trivial
 have ir:OkG (cV L) L 166 (G (mZ (jq b) c0) d):=⟨NL (hcs c0 List.mem_cons_self) b,fun x g=>hcs x (Zy _ g),rfl⟩;have Y:s.heap.size=(dV h l).size:=by rw[pX,hll];omega
 have U:OsLater u0.os s.os:=hos.trans y.os;refine⟨G (mZ (jq b) c0) d,dV h l,N,gs',s,sl',t',q',fun x=>S x\/(w.heap.size<=x/\x<s.heap.size),⟨⟨A,rfl,.inl ir⟩,?_⟩,ir,hrun,hg',hL',pW hP' ?_,fun k=>⟨fun _ _ _=>rfl,Y,fun x g=>?_,fun x g=>?_,fun x g=>?_,zf U,A⟩,U,⟨fun b h=>.inl h,fun b h=>h.imp id fun h=>h.1,by omega,y.tape,y.output,fun b hb _=>y.low b hb⟩⟩
 ·obtain⟨M1,δ1,σ1,k1⟩:=hw2.trans hw3;have k2:=k1.trans hlast;rw[show(cV L).P=PV from rfl,HQ];exact⟨_,_,_,Nat.succ_pos _,k2⟩
 ·intro lc E;rcases E with E|⟨ad,rfl,E⟩
  ·cases lc with
   |cell ad=>exact .inl E
   |obj r=>exact .inl E
   |_=>exact E
  ·refine .inr ?_;have:ad.block=w.heap.size+3\/ad.block=w.heap.size+4:=E;omega
 ·have hx1:¬S x:=fun hs=>g (.inl hs)
  by_cases W:x<w.heap.size
  ·have e1:s.heap[x]?=w.heap[x]?:=y.low x W;have e2:w.heap[x]?=h[x]?:=(M 0).same x hx1;show s.heap[x]?=(dV h l)[x]?;rw[e1,e2,jU _ _ _ (by omega)]
  ·have hx2:s.heap.size<=x:=by apply Classical.byContradiction;intro hn';exact g (.inr ⟨by omega,by omega⟩)
   show s.heap[x]?=(dV h l)[x]?;rw[Z0 hx2,Z0 (by omega)]
 ·have old:S x->mL x (bL u0 (dV h l) s.tape s.drawn) s:=by
   intro hs;have W:=hSB x hs;have e1:s.heap[x]?=w.heap[x]?:=y.low x W;have e2:(dV h l)[x]?=h[x]?:=jU _ _ _ (by omega);rcases(M 0).mask x hs with⟨c,e,⟨f,p1⟩,f',p2⟩|p
   ·exact .inl ⟨c,e,⟨f,e2.trans p1⟩,f',e1.trans p2⟩
   ·exact .inr (e2.trans p)
  rcases g with g|⟨O,Z⟩
  ·exact old g
  ·obtain⟨cs,f,p1,p2⟩:=hty x O Z;have hi:l[x-w.heap.size]?=Ω (R x):=by simp only[l,List.getElem?_map];rw[List.getElem?_range (by omega)];simp only[ZZ];rw[show w.heap.size+(x-w.heap.size)=x by omega]
   have:=uB l h (x-w.heap.size) (R x) hi;rw[show h.size+(x-w.heap.size)=x by omega]at this;exact .inl ⟨cs,R x,⟨_,this⟩,f,p1⟩
 ·rw[Bq];rcases g with g|⟨O,Z⟩
  ·have:=(M 0).high x g;rw[Bq]at this;exact this
  ·omega
end Vc
namespace Vc
open Go Go.Conc Ph gO
def PT:ZK:=⟨P0.toTables,#[]⟩
def rV(t:κ):Bool:=match PT.info? t with
 |some i=>match i.desc with
  |.named n _=>n != "sync.copyChecker"
  |_=>Θ
 |none=>Θ
def qN(t:κ):Bool:=match PT.underlying t with
 |some .bool|some .string=>Θ
 |some (.int _)=>rV t
 |_=>Ψ
def Dh(t:κ):Bool:=qN t||match PT.underlying t with
 |some (.struct fs)=>fs.all fun f=>qN f.type
 |_=>Ψ
def aeG(t:κ):Bool:=match PT.underlying t with
 |some (.int _)=>Θ
 |_=>Ψ
def aeH(t:κ):Bool:=match PT.underlying t with
 |some (.map k _)=>Dh k
 |_=>Ψ
def LV:bu:={flat:=[2,3,4,21,34,50,93,227,245,290],ints:=[3,21,93,183,245],maps:=[110,164,205]}
theorem H8:LV.flat.all Dh=Θ:=by kernel_rfl
theorem H9:LV.ints.all aeG=Θ:=by kernel_rfl
theorem Ia:LV.maps.all aeH=Θ:=by kernel_rfl
theorem zg:∀(l:List ZL) (i j:Nat),(Bp i l)[j]?=(l[j]?).map (yU (i+j))
 |[],i,j=>by simp[Bp]
 |f::l,i,0=>by simp[Bp]
 |f::l,i,j+1=>by simp only[Bp,List.getElem?_cons_succ];rw[zg l (i+1) j,show i+1+j=i+(j+1) by omega]
theorem Bt(f:ZT):PV.funcs[f]?=(P0.funcs[f]?).map (yU f):=by have:=zg P0.funcs.toList 0 f;rw[Nat.zero_add]at this;show(⟨Bp 0 P0.funcs.toList⟩:Array ZL)[f]?=_;rw[ZH,this,ZW]
theorem jV:xH na:=⟨by kernel_rfl,rfl,by kernel_rfl,by kernel_rfl,by kernel_rfl⟩
def VM(i:Nat)(f:ZL):Bool:=match f.body with
 |some b=>i==166||yT.contains i||be LV Ψ b
 |none=>Θ
def aeI(f:ZL):Bool:=!(f.name== "runtime.NumGoroutine")
def allI(p:Nat->ZL->Bool):Nat->List ZL->Bool
 |_,[]=>Θ
 |i,f::l=>p i f&&allI p (i+1) l
theorem rW{p:Nat->ZL->Bool}:∀{l:List ZL} {i:Nat},allI p i l=Θ->∀{j:Nat} {f:ZL},l[j]?=Ω f->p (i+j) f=Θ
 |[],i,h,j,f,hj=>by simp at hj
 |g::l,i,h,0,f,hj=>by simp only[Z2,Z7]at hj;subst hj;simp only[allI,Z1]at h;exact h.1
 |g::l,i,h,j+1,f,hj=>by simp only[allI,Z1]at h;have:=rW h.2 (j:=j) (f:=f) (by simpa using hj);rwa[show i+1+j=i+(j+1) by omega]at this
theorem EF:allI VM 0 P0.funcs.toList=Θ:=by kernel_rfl
theorem Ib:allI (fun _ f=>aeI f) 0 P0.funcs.toList=Θ:=by kernel_rfl
structure kC(f:ZT)(e:Array υ->Sem υ):Prop where
 ex:∃fn,P0.funcs[f]?=Ω fn/\Extern.findNext fn=Z9/\Extern.find fn=Ω e
theorem ami:kC 192 (fun args=>ZG (args.getD 0 (.tuple #[]))):=⟨F0 192,by kernel_rfl,by kernel_rfl,by kernel_rfl⟩
theorem amj:kC 193 (ZF (ι "reflectlite.Value.Type" 0) fun t _ _ _=>Zx t):=⟨F0 193,by kernel_rfl,by kernel_rfl,by kernel_rfl⟩
theorem amk:kC 194 (Z4 (ι "reflectlite.Value.IsNil" 0) ZE):=⟨F0 194,by kernel_rfl,by kernel_rfl,by kernel_rfl⟩
theorem aml:kC 228 Zw:=⟨F0 228,by kernel_rfl,by kernel_rfl,by kernel_rfl⟩
theorem amm:kC 229 (Z4 (ι "reflectlite.Value.Elem" 0) ZD):=⟨F0 229,by kernel_rfl,by kernel_rfl,by kernel_rfl⟩
theorem amn:kC 230 ZC:=⟨F0 230,by kernel_rfl,by kernel_rfl,by kernel_rfl⟩
theorem amo:kC 335 (Z3 "AssignableTo" Zv):=⟨F0 335,by kernel_rfl,by kernel_rfl,by kernel_rfl⟩
theorem amp:kC 337 (Zu Zt):=⟨F0 337,by kernel_rfl,by kernel_rfl,by kernel_rfl⟩
theorem amq:kC 338 (Z3 "Implements" Zs):=⟨F0 338,by kernel_rfl,by kernel_rfl,by kernel_rfl⟩
theorem amr:kC 302 (Zr fun t=>do pure (ε .u8 (<-Extern.Rtype.kind t))):=⟨F0 302,by kernel_rfl,by kernel_rfl,by kernel_rfl⟩
def Di(f:ZL):Bool:=match f.body with
 |some b=>(readies b).isEmpty
 |none=>Θ
theorem EG:PV.funcs.toList.all Di=Θ:=by kernel_rfl
theorem Ic:P0.toTables.follows .staticDataAhead=Θ:=by kernel_rfl
def VN:List Nat:=[288,290,292,294,296,298,303,305,311,312,315,341,344]
def aeJ(i:ZB):Bool:=i.methods.all fun m=>if m.name== "Error"||m.name== "String"then(match m.func with
 |some (f,_)=>VN.contains f
 |none=>Θ)else Θ
theorem NM:P0.types.toList.all aeJ=Θ:=by kernel_rfl
theorem Id:∀f∈VN,PV.funcs[f]?=Ω na:=by intro f a;simp only[VN,ZN,ZR,or_false]at a;rcases a with rfl|rfl|rfl|rfl|rfl|rfl|rfl|rfl|rfl|rfl|rfl|rfl|rfl<;>kernel_rfl
theorem ams:(F0 166).body.isNone=Ψ:=by kernel_rfl
theorem amt:P0.funcs[166]?=Ω (F0 166):=by kernel_rfl
theorem NN:∀fn,P0.funcs[166]?=Ω fn->fn.body.isNone=Ψ:=fun fn h=>by rw[amt]at h;rw[<-ZJ h];exact ams
theorem Ie:(Vm.name== "runtime.NumGoroutine")=Ψ:=by kernel_rfl
theorem EH:P0.inits=#[2]:=by kernel_rfl
section
variable{fn:ZL}{t:κ}{f:ZT}{c:Ctx}{i:ZB}
theorem Bu(h:rV t=Θ):ft P0.toTables t:=by intro F i u hi b;have a:PT.info? t=Ω i:=hi;unfold rV at h;rw[a]at h;dsimp only at h;rw[b]at h;simp at h
theorem uC(h:qN t=Θ):Scalar P0.toTables t:=by
 unfold qN at h;split at h
 ·rename_i a;exact .inl a
 ·rename_i a;exact .inr (.inl a)
 ·rename_i k a;exact .inr (.inr ⟨⟨k,a⟩,Bu h⟩)
 ·cases h
theorem Dj(h:Dh t=Θ):Flat P0.toTables t:=by
 unfold Dh at h;rw[Bool.or_eq_true]at h;rcases h with h|h
 ·exact .inl (uC h)
 ·split at h
  ·rename_i c a;refine .inr ⟨c,a,fun f b=>?_⟩;obtain⟨i,hi,rfl⟩:=ZI.1 b;exact uC (Array.all_eq_true.1 h i hi)
  ·cases h
theorem sound:LV.Sound P0.toTables:=by
 refine⟨fun t a=>Dj (Z8.1 H8 t a),fun t a=>?_,fun t a k e c=>?_⟩
 ·have h:=Z8.1 H9 t a;unfold aeG at h;split at h
  ·rename_i k d;exact⟨k,d⟩
  ·cases h
 ·have h:=Z8.1 Ia t a;have b:PT.underlying t=Ω (.map k e):=c;unfold aeH at h;rw[b]at h;exact Dj h
theorem NO(h:P0.funcs[f]?=Ω fn):VM f fn=Θ:=by have:=rW EF (j:=f) (f:=fn) (by rw[ZW];exact h);rwa[Nat.zero_add]at this
theorem lS(h:P0.funcs[f]?=Ω fn):(fn.name== "runtime.NumGoroutine")=Ψ:=by have:=rW Ib (j:=f) (f:=fn) (by rw[ZW];exact h);simpa[aeI]using this
theorem kC.mf{e:Array υ->Sem υ}(h:kC f e)(hf:P0.funcs[f]?=Ω fn)(hb:fn.body.isNone=Θ)(ht:∀args,TT c (e args)):vt c fn:=by
 obtain⟨b,a,d,g⟩:=h;rw[hf]at a;cases a
 exact⟨lS hf,hb,d,e,g,ht⟩
theorem uD(hr:ED.contains f=Θ)(hf:P0.funcs[f]?=Ω fn)(hb:fn.body.isNone=Θ):vt c fn:=by
 have d:f∈ED:=ZA.1 hr;simp only[ED,ZN,ZR,or_false]at d;rcases d with rfl|rfl|rfl|rfl|rfl|rfl|rfl|rfl|rfl|rfl
 ·exact ami.mf hf hb fun b=>ua _
 ·exact amj.mf hf hb fun b=>ro _ _ (d8 _ _) (fun t a n k=>oN _) _
 ·exact amk.mf hf hb fun b=>pG _ _ (d8 _ _) (fun t a n k=>AV _ _ _ _) _
 ·exact aml.mf hf hb fun b=>DX _
 ·exact amm.mf hf hb fun b=>pG _ _ (d8 _ _) (fun t a n k=>DZ _ _ _ _) _
 ·exact amn.mf hf hb fun b=>FT _
 ·exact amr.mf hf hb fun b=>vr _ (fun t=>ae (qB _) fun _=>ag _) _
 ·exact amo.mf hf hb fun b=>pE _ _ (fun t u=>qo _ _) _
 ·exact amp.mf hf hb fun b=>xG _ (fun t=>DY _) _
 ·exact amq.mf hf hb fun b=>pE _ _ (fun t u=>rj _ _) _
theorem pi{g:ZL}(hg:P0.funcs[f]?=Ω g):(f=166/\yU f g=Vm)\/(f≠166/\g.body.isNone=Ψ/\yT.contains f=Ψ/\yU f g=g)\/(f≠166/\yU f g=na)\/(f≠166/\g.body.isNone=Θ/\ED.contains f=Θ/\yU f g=g):=by
 unfold yU;by_cases h:f=166
 ·subst h;exact .inl ⟨rfl,rfl⟩
 ·have a:(f==166)=Ψ:=by simpa using h
  rw[a];simp only[ξ,if_false];cases hb:g.body with
  |some b=>
   simp only[Option.isSome_some,if_true];cases hd:yT.contains f with
   |true=>exact .inr (.inr (.inl ⟨h,rfl⟩))
   |false=>exact .inr (.inl ⟨h,rfl,rfl,rfl⟩)
  |none=>
   simp only[Option.isSome_none,ξ,if_false];cases hd:ED.contains f with
   |true=>exact .inr (.inr (.inr ⟨h,rfl,rfl,rfl⟩))
   |false=>exact .inr (.inr (.inl ⟨h,rfl⟩))
theorem EI(f:ZT):gV c PV.funcs[f]? P0.funcs[f]?:=by
 rw[Bt];cases hg:P0.funcs[f]? with
 |none=>exact .none
 |some g=>
  rcases pi hg with⟨rfl,e⟩|⟨_,hb,_,e⟩|⟨_,e⟩|⟨_,hb,a,e⟩<;>simp only[ZZ,e]
  ·exact .oO _ _ rfl (NN g hg) Ie (lS hg)
  ·exact .oO _ _ hb hb (lS hg) (lS hg)
  ·exact .dead _ _ jV
  ·exact .row _ (uD a hg hb)
theorem EJ(f:ZT):gV c PV.funcs[f]? PV.funcs[f]?:=by
 rw[Bt];cases hg:P0.funcs[f]? with
 |none=>exact .none
 |some g=>
  rcases pi hg with⟨rfl,e⟩|⟨_,hb,_,e⟩|⟨_,e⟩|⟨_,hb,a,e⟩<;>simp only[ZZ,e]
  ·exact .oO _ _ rfl rfl Ie Ie
  ·exact .oO _ _ hb hb (lS hg) (lS hg)
  ·exact .dead _ _ jV
  ·exact .row _ (uD a hg hb)
theorem vT{b:Code}(h:PV.funcs[f]?=Ω fn)(hb:fn.body=Ω b):(f=166/\fn=Vm)\/(f≠166/\P0.funcs[f]?=Ω fn/\yT.contains f=Ψ/\be LV Ψ b=Θ):=by
 rw[Bt]at h;cases hg:P0.funcs[f]? with
 |none=>rw[hg]at h;cases h
 |some g=>
  rw[hg]at h;simp only[ZZ,Z7]at h;rcases pi hg with⟨rfl,e⟩|⟨d,a,hd,e⟩|⟨_,e⟩|⟨_,a,i,e⟩<;>rw[e]at h<;>subst h
  ·exact .inl ⟨rfl,rfl⟩
  ·have c:=NO hg;unfold VM at c;rw[hb]at c;simp only[hd,Bool.or_false,Bool.or_eq_true,beq_iff_eq]at c;exact .inr ⟨d,rfl,hd,c.resolve_left d⟩
  ·cases hb
  ·rw[hb]at a;cases a
theorem rX{b:Code}(h:PV.funcs[f]?=Ω fn)(hb:fn.body=Ω b):P0.inits.idxOf? f=Z9:=by
 rw[EH];have:f≠2:=by
  rintro rfl;rcases vT h hb with⟨h,_⟩|⟨_,_,h,_⟩
  ·cases h
  ·exact absurd h (by decide)
 rw[Array.idxOf?_eq_none_iff];simp[this]
theorem Dk(g:Nat):PV.stepOf g=Z9:=by
 unfold Program.stepOf;rw[Array.findIdx?_eq_none_iff];intro f a;have:=Z8.1 EG f (Zz.2 a);unfold Di at this;cases hb:f.body with
 |none=>rfl
 |some b=>rw[hb]at this;have:readies b=[]:=List.isEmpty_iff.1 this;simp[this]
theorem aeK(S:Nat->Prop):ge ((cV LV).with S) LV 166:=by
 refine⟨fun f=>EI f,fun f fn b d h hb=>?_,fun f fn b h hb=>rX h hb,Dk,Ic,fun _=>Iff.rfl,fun _=>Iff.rfl,sound⟩;rcases vT h hb with⟨h,_⟩|⟨_,a,_,c⟩
 ·exact absurd h d
 ·exact⟨a,c⟩
theorem uE:ge (cV LV).eH LV 166:=by
 refine⟨fun f=>EJ f,fun f fn b c h hb=>?_,fun f fn b h hb=>rX h hb,Dk,Ic,fun _=>Iff.rfl,fun _=>Iff.rfl,sound⟩;rcases vT h hb with⟨h,_⟩|⟨_,d,_,a⟩
 ·exact absurd h c
 ·exact⟨h,a⟩
theorem dN{α β:Type}{x:Sem α}{f:α->Sem β}{P:ZK}{w w':ο}{r:β}(h:(x>>=f).run P w=.ok r w'):∃a w1,x.run P w=.ok a w1/\(f a).run P w1=.ok r w':=by
 rw[Sem.run_bind]at h;cases hx:x.run P w with
 |ok a w1=>rw[hx]at h;exact⟨a,w1,rfl,h⟩
 |halt e w1=>rw[hx]at h;cases h
theorem Made.lp{info:κ->Option ZB}{fs:Array Field}(h:Made.reckonStruct info fs=Ω i):i.methods=#[]:=by unfold Made.reckonStruct at h;simp only[Option.bind_eq_bind,Ξ,Option.pure_def,Z7]at h;obtain⟨r,_,h⟩:=h;split at h<;>(cases h;rfl)
theorem Made.rY{info:κ->Option ZB}{d:TypeDesc}(h:Made.reckon info d=Ω i):i.methods=#[]:=by
 unfold Made.reckon at h;split at h
 ·obtain⟨j,_,h⟩:=Ξ.1 h;split at h
  ·cases h
  ·split at h
   ·cases h
   ·obtain⟨s,_,h⟩:=Ξ.1 h;cases h;rfl
  ·obtain⟨s,_,h⟩:=Ξ.1 h;cases h;rfl
 ·obtain⟨j,_,h⟩:=Ξ.1 h;obtain⟨s,_,h⟩:=Ξ.1 h;cases h;rfl
 ·obtain⟨j,_,h⟩:=Ξ.1 h;obtain⟨s,_,h⟩:=Ξ.1 h;obtain⟨a,_,h⟩:=Ξ.1 h;obtain⟨b,_,h⟩:=Ξ.1 h;cases h;rfl
 ·obtain⟨j,_,h⟩:=Ξ.1 h;obtain⟨s,_,h⟩:=Ξ.1 h;cases h;rfl
 ·obtain⟨s,_,h⟩:=Ξ.1 h;cases h;rfl
 ·obtain⟨j,_,h⟩:=Ξ.1 h;obtain⟨s,_,h⟩:=Ξ.1 h;cases h;rfl
 ·exact Made.lp h
 ·cases h
theorem vU{T:Tables}(h:T.info? t=Ω i):T.types[t]?=Ω i\/i.methods=#[]:=by
 unfold Tables.info? at h;split at h
 ·exact .inl h
 ·unfold Made.depth at h;unfold Made.infoAt at h;split at h
  ·exact .inl h
  ·obtain⟨d,_,h⟩:=Ξ.1 h;exact .inr (Made.rY h)
def QZ(P:ZK)(name:String)(f:ZT):Prop:=∃(t:κ) (i:ZB) (m:Method) (b:Bool),P.types[t]?=Ω i/\m∈i.methods/\m.name=name/\m.func=Ω (f,b)
theorem n8{P:ZK}{name:String}:∀(n:Nat) (t:κ) (v:υ) (w:ο) (r:ZT×υ) (w':ο),(method n t v name).run P w=.ok r w'->QZ P name r.1
 |0,t,v,w,r,w',h=>by simp[method,unsupported,ZY]at h
 |n+1,t,v,w,r,w',h=>by
  unfold method at h;obtain⟨i,w1,h1,h⟩:=dN h;have hi:P.info? t=Ω i:=by
   simp only[typeInfo,Sem.run_bind,run_program,ZV]at h1;split at h1
   ·rename_i j hj;cases h1
    exact hj
   ·simp[stuck,ZY]at h1
  split at h
  ·rename_i m hm;obtain⟨⟨xt,x⟩,w2,_,h⟩:=dN h;dsimp only at h;split at h
   ·obtain⟨y,w3,_,h⟩:=dN h;split at h
    ·exact n8 n _ _ _ _ _ h
    ·simp[runtimePanic,ZY]at h
    ·simp[stuck,ZY]at h
   ·rename_i f b hf;obtain⟨y,w3,_,h⟩:=dN h;cases h
    have hmem:=Array.mem_of_find?_eq_some hm;have hnm:=ZS hm;rcases vU hi with h0|h0
    ·exact⟨t,i,m,b,h0,hmem,by simpa using hnm,hf⟩
    ·rw[h0]at hmem;simp at hmem
  ·simp[stuck,ZY]at h
theorem Bv{name:String}(hn:name= "Error"\/name= "String")(h:QZ PV name f):PV.funcs[f]?=Ω na:=by
 obtain⟨t,i,m,b,j,d,l,g⟩:=h;have a:P0.types[t]?=Ω i:=j;have hi:i∈P0.types.toList:=Zz.2 (Array.mem_of_getElem? a);have:=Z8.1 NM i hi;unfold aeJ at this;obtain⟨k,c,rfl⟩:=ZI.1 d;have:=Array.all_eq_true.1 this k c;have e:(i.methods[k].name== "Error"||i.methods[k].name== "String")=Θ:=by rw[l];rcases hn with rfl|rfl<;>rfl
 rw[e]at this;simp only[if_true,g]at this;exact Id f (ZA.1 this)
theorem mute:FV PV:=by
 intro v t d name a w f c n h;have k:name= "Error"\/name= "String":=by
  unfold panicText at a;split at a
  ·split at a
   ·cases a
   ·rename_i g _;dsimp only at a;split at a
    ·rename_i m b;cases a
     simp only[ξ,if_false]at b;have:=ZS b;simp only[Z1,beq_iff_eq]at this;exact .inl this.1
    ·rename_i m _ b;cases a
     simp only[ξ,if_false]at b;have:=ZS b;simp only[Z1,beq_iff_eq]at this;exact .inr this.1
    ·split at a
     ·cases a
     ·split at a<;>first|(cases a;done)|(split at a<;>cases a)
  all_goals cases a
 unfold invoke callMethod at h;simp only[ZH,Z2]at h;obtain⟨p,l,r,h⟩:=dN h;obtain⟨⟨u,s⟩,x,i,h⟩:=dN h;have hd:=Bv k (n8 _ _ _ _ _ _ i);dsimp only at h hd;unfold callFunc at h;obtain⟨q,o,e,h⟩:=dN h;have j:q=PV:=by
  rw[run_program]at e;cases e
  rfl
 rw[j,hd]at h;dsimp only at h;rw[jV.name,jV.body,jV.next,jV.row,jV.init]at h;simp only[ξ,if_false,if_true]at h;obtain⟨_,w4,_,h⟩:=dN h;simp[unsupported,ZY]at h
end
end Vc
namespace Vc
open Go Go.Conc Ph gO
open Go.ConcM (OsLater)
section
open Classical in
noncomputable def shut (H:Array ZM):Array ZM:=H.map fun o=>if Hx LV o then o else bE
variable{H:Array ZM}{b:Nat}
theorem pj(H:Array ZM):(shut H).size=H.size:=by simp[shut]
theorem If:Hx LV bE:=rfl
theorem NP{o:ZM}(h:(shut H)[b]?=Ω o):Hx LV o:=by
 unfold shut at h;rw[ZU]at h;obtain⟨a,_,rfl⟩:=ZO.1 h;split
 ·assumption
 ·exact If
theorem vV{o:ZM}(h:H[b]?=Ω o)(ho:Hx LV o):(shut H)[b]?=Ω o:=by unfold shut;rw[ZU,h];simp[ho]
theorem Bw{cs:Array υ}{e:κ}{f:Nat×Nat}(h:H[b]?=Ω (.cells cs e f)):(shut H)[b]?=Ω (.cells cs e f):=vV h trivial
theorem Ig{f:ZT}{fn:ZL}{b:Code}(hf:f≠166)(h1:PV.funcs[f]?=Ω fn)(h2:fn.body=Ω b)(args:Array υ){W:ο}{Post:υ->Array ZM->Prop}{PostR:υ->ο->Prop}
 (aeL:∀o,W.heap[0]?=Ω o->Hx LV o)
 (aeM:∀τ,gO.Ends PV Post (solo (G (φ PV f args .normal) []) (bL W (shut W.heap) τ 0)))
 (hfin:∀v h w S,Post v h->HR (cV LV) W S h w->OsLater W.os w.os->Kept (Hx LV) W S w->PostR v w):
 dj P0 PostR (solo (G (φ P0 f args .normal) []) W) #[]:=by
 have hF:=aeK (fun _=>False);have e:φ P0 f args .normal=φ PV f args .normal:=rq (c:=(cV LV).with fun _=>False) hF hf h1 h2 args .normal;have ir:OkG (cV LV) LV 166 (G (φ PV f args .normal) []):=⟨(xK (c:=(cV LV).with fun _=>False) hF hf h1 h2 args (.inl rfl)).oT,fun x r=>by simp[G]at r,rfl⟩;have a:pL (cV LV) (shut W.heap):=fun b o h=>NP h
 have d:gO.Node (cV LV) LV 166 (G (φ PV f args .normal) []) (shut W.heap):=⟨a,rfl,.inl ir⟩;have n:FW (cV LV) LV 166 W Post (G (φ PV f args .normal) []) (shut W.heap):=xO uE mute d aeM;have p:HR (cV LV) W (fun b=>∃o,W.heap[b]?=Ω o/\¬Hx LV o) (shut W.heap) W:=fun k=>⟨fun _ _ _=>rfl,(pj _).symm,fun b hb=>by
  show W.heap[b]?=(shut W.heap)[b]?;cases l:W.heap[b]? with
  |none=>exact(Z0 (by rw[pj];exact Array.getElem?_eq_none_iff.1 l)).symm
  |some o=>refine(vV l ?_).symm;apply Classical.byContradiction;intro d;exact hb ⟨o,l,d⟩,fun b ⟨o,l,d⟩=>by
  refine .inr ?_;show(shut W.heap)[b]?=_;unfold shut;rw[ZU,l];simp[d],fun b ⟨o,l,d⟩=>by
  rw[Bq];rcases Nat.eq_zero_or_pos b with rfl|hb
  ·exact absurd (aeL o l) d
  ·exact hb,rfl,a⟩
 rw[e];refine FZ aeK uE H7 hfin n a rfl _ (.inl ⟨rfl,ir⟩) (Go.ConcN.sumTo 1 fun _=>0) #[G (φ PV f args .normal) []] W Z9 #[] (fun _=>0) _ (Nat.le_refl _) rfl ⟨fun i g h0 q=>?_,fun j s=>?_⟩ (pW (past_nil.mono (Nat.zero_le _)) fun _ h=>h.elim) p (.refl _) ⟨rfl,rfl,Nat.le_refl _,fun b o hb d=>⟨⟨o,hb,d⟩,hb⟩,fun b o hb l ⟨t,m,d⟩=>by
  rw[hb]at m;cases m
  exact d l⟩
 ·have:i<1:=(η.1 q).1;omega
 ·simp[Deaf,Trace.deaf]
theorem ends_of_calls{f:ZT}{fn:ZL}{b:Code}(h1:PV.funcs[f]?=Ω fn)(h2:fn.body=Ω b){args:Array υ}{w:ο}{Post:υ->Array ZM->Prop}(h:Calls PV f args w fun e w'=>∃v,e=.returned v/\Post v w'.heap):
 gO.Ends PV Post (solo (G (φ PV f args .normal) []) w):=by
 obtain⟨e,w',fr,⟨v,rfl,c⟩,hc,a,g⟩:=h [];have hi:PV.inits.idxOf? fr.fn=Z9:=by rw[a];exact rX h1 h2
 have hd:=step_leave_done g hi;obtain⟨n,d⟩:=(show Steps PV _ _ from hc);refine⟨n+1,v,w',?_,c⟩;have:=gO.runN_add (P:=PV) n 1 (m:=lone (φ PV f args .normal) [] w) d;refine this.trans ?_;simp only[runN,hd]
end
end Vc
