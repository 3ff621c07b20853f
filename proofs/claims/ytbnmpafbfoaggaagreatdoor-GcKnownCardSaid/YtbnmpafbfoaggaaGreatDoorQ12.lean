/- A part of the proof of GcKnown; no conditions. -/
import Derived.Test.YtbnmpafbfoaggaaGreatDoorQ11
import Derived.Conc.Beside
import Derived.Conc.CrowdBase
import Derived.Conc.FxWorld
set_option linter.unusedVariables false
set_option linter.unusedSimpArgs false
set_option maxRecDepth 100000
set_option maxHeartbeats 16000000
noncomputable section
open Go renaming Goroutine->Ω,World->μ,Value->θ,Addr->Z9,TypeId->Z7,HappensBefore->Z2,Frame->ZX,Event->ZW
open Bool renaming false->Ψ,true->Δ
open Array renaming mem_singleton->Ξ,getElem?_eq_getElem->ψ,getElem?_push_lt->υ,mem_of_getElem?->Z4,size_push->ZV,getElem?_modify->ZU
open Option renaming some->Θ,none->ω,map_eq_some_iff->ε
open Go.MemAct renaming ofEvent->Γ,touch?->φ
open Go.Conc renaming g?_old->χ,touchAt->Z3,noRace_append->Z1,deafBehind_still->Z0
open Go.IntKind renaming i64->ο
open Go.Value renaming int->ξ,slice->η,pointer->ζ
open Option.some renaming injEq->κ
open Prod.Lex renaming right->ι,left->ZZ
open Go.Obj renaming cells->Z8
open Go.ConcM renaming OsLater->ZY
namespace Go.Proofs.YtbnmpafbfoaggaaGreatDoor
namespace Ph
open Go Go.Conc
section
variable(v0:Z9)(xc xe:Nat)(hi:Int)(ca:Option Z9)(n m:Nat)(i:Int)(xx:Nat)(pe:Z9)(v:θ)(xv xw:Nat)(q N:Int)
abbrev Ux:=Xg P0 Ψ 300
abbrev kB:=Xf P0 Ψ 300
def pz(x:Nat):θ:=ζ (Θ ⟨x,0,ω⟩)
def q1(x:Nat):θ:=ζ (Θ ⟨x,1,ω⟩)
def ak8(xe:Nat):Deferred:={target:=.fn (.func 248) #[pz xe],args:=#[]}
def fX(v0:Z9)(xc xe:Nat)(T:List Item)(ex:List (Nat×θ)):bG:={fn:=213,n:=48,T,l:=ex++[pv 0 v0,(3,pz xc),(4,pz xe)],defers:=[ak8 xe]}
def b5(v0:Z9)(T:List Item)(ex:List (Nat×θ)):bG:={fn:=167,n:=29,T,l:=ex++[pv 0 v0]}
def mX(v0:Z9)(T:List Item)(ex:List (Nat×θ)):bG:={fn:=169,n:=30,T,l:=ex++[pv 0 v0]}
def CV(T:List Item)(b:Bool)(k:Int):bG:={fn:=84,n:=8,T,l:=[bv 4 b,bv 0 b,iv 1 k]}
def MG(d:bG)(ds:List bG)(stop:Ω->Bool):Ω:=bN P0 Ψ stop 300 (SC d ds [default] fun _ _=>undef)
def dc(d:bG)(ds:List bG)(v:θ)(stop:Ω->Bool):Ω:=bN P0 Ψ stop 300 (fin v (SC d ds [default] fun _ _=>undef))
def gx3:=bN P0 Ψ (ah 213 3) 300 {frame:=Frame.enter P0 213 #[ζ (Θ a0),.agg #[ξ ο 0,η (Θ a0) 1 1]] .normal,callers:=[default],status:=.running,dying:=ω}
def tx3:=aK gx3
def tx4:=aK (dc {fn:=213,n:=48,T:=tx3,l:=[pv 0 a0,(1,.agg #[ξ ο 0,η (Θ a0) 1 1])]} [] (pz 7) (ah 213 4))
def Ek:=aK (dc {fn:=213,n:=48,T:=tx4,l:=[pv 0 a0,(3,pz 7)]} [] (pz 8) (ah 213 11))
def tB:=aK (dc (fX a0 7 8 Ek []) [] (ξ ο 0) (ah 213 15))
def tC:=aK (dc (fX a0 7 8 tB [bv 13 Ψ]) [] (ξ ο 0) (ah 213 21))
def yx:=aK (dc (fX a0 7 8 tC []) [] (ξ ο 0) (ah 213 26))
def acN:=dc (fX a0 7 8 yx [iv 5 0,iv 6 4]) [] (η (Θ a0) 1 1) (aC 84 4)
def CX:=aK acN
def Uy:=cH 0 acN
def MH:=aK (MG (CV CX Ψ 5) [(fX a0 7 8 Uy [iv 5 0,iv 6 4])] (ah 213 32))
def ak9:=dc (fX a0 7 8 MH [iv 5 0,iv 6 4]) [] (η (Θ a0) 1 1) (aC 84 4)
def Uz:=cH 0 ak9
def MI:=aK (MG (CV CX Ψ 6) [(fX a0 7 8 Uz [])] (ah 213 38))
def Ar:=aK (dc (fX a0 7 8 MI []) [] (η (Θ a0) 1 1) (aC 213 41))
def MJ:=aK (MG (fX a0 7 8 Ar [bv 41 Δ,(38,η (Θ a0) 1 1),iv 39 1,iv 40 0]) [] (ah 213 42))
def MK:=aK (dc (fX a0 7 8 MJ [(38,η (Θ a0) 1 1),iv 39 1,iv 40 0]) [] (ζ (Θ a0)) (ah 213 43))
def tx8:=aK (dc (fX a0 7 8 MK [(38,η (Θ a0) 1 1),iv 39 1,iv 40 0]) [] (.agg #[ξ ο 0,ξ ο 0]) (ah 213 8))
def ML:=aK (dc (fX a0 7 8 tx8 [(43,.agg #[ξ ο 0,ξ ο 0]),(38,η (Θ a0) 1 1),iv 39 1,iv 40 0]) [] (pz 9) (eh 213))
def GT:=aK (dc (fX a0 7 8 ML [(8,pz 9),(38,η (Θ a0) 1 1),iv 39 1,iv 40 0]) [] undef (ah 213 45))
def gv3:=dc (fX a0 7 8 GT [pv 44 a0,(38,η (Θ a0) 1 1),iv 39 1,iv 40 0]) [] (.agg #[ξ ο 0,ξ ο 0]) (ah 167 3)
def tv3:=aK gv3
def ja:=cH 0 gv3
def MM:=aK (dc (b5 a0 tv3 []) [(fX a0 7 8 ja [(38,η (Θ a0) 1 1),iv 39 1,iv 40 0])] (pz 10) (ah 167 5))
def GU:=aK (dc (b5 a0 MM [(3,pz 10)]) [(fX a0 7 8 ja [(38,η (Θ a0) 1 1),iv 39 1,iv 40 0])] (ξ ο 0) (ah 167 10))
def GW:=aK (dc (b5 a0 MM [(3,pz 10)]) [(fX a0 7 8 ja [(38,η (Θ a0) 1 1),iv 39 1,iv 40 0])] (ξ ο 2) (ah 167 20))
def El:=aK (dc (b5 a0 MM [(3,pz 10)]) [(fX a0 7 8 ja [(38,η (Θ a0) 1 1),iv 39 1,iv 40 0])] (ξ ο 3) (ah 167 27))
def MN:=aK (dc (b5 a0 GU [(3,pz 10)]) [(fX a0 7 8 ja [(38,η (Θ a0) 1 1),iv 39 1,iv 40 0])] (ξ ο 1) (ah 167 13))
def ala:=dc (b5 a0 MN [iv 11 1]) [(fX a0 7 8 ja [(38,η (Θ a0) 1 1),iv 39 1,iv 40 0])] (ξ ο 1) (aC 84 4)
def acO:=cH 0 ala
def alb:=dc (b5 a0 GW []) [(fX a0 7 8 ja [(38,η (Θ a0) 1 1),iv 39 1,iv 40 0])] (ξ ο 0) (aC 84 4)
def acP:=cH 0 alb
def gp3:=dc (b5 a0 El [pv 26 a0]) [(fX a0 7 8 ja [(38,η (Θ a0) 1 1),iv 39 1,iv 40 0])] (.agg #[ξ ο 3,ξ ο 0]) (ah 169 3)
def tp3:=aK gp3
def fi:=cH 0 gp3
def tp9:=aK (dc (mX a0 tp3 []) [(b5 a0 fi []),(fX a0 7 8 ja [(38,η (Θ a0) 1 1),iv 39 1,iv 40 0])] (pz 11) (ah 169 9))
def Em:=aK (dc (mX a0 tp9 [(3,pz 11)]) [(b5 a0 fi []),(fX a0 7 8 ja [(38,η (Θ a0) 1 1),iv 39 1,iv 40 0])] (η (Θ a0) 1 1) (ah 169 12))
def MO:=aK (dc (mX a0 Em [iv 4 1,(3,pz 11)]) [(b5 a0 fi []),(fX a0 7 8 ja [(38,η (Θ a0) 1 1),iv 39 1,iv 40 0])] (ξ ο 3) (ah 169 18))
def Be:=aK (dc (mX a0 Em [iv 4 1,(3,pz 11)]) [(b5 a0 fi []),(fX a0 7 8 ja [(38,η (Θ a0) 1 1),iv 39 1,iv 40 0])] (ξ ο 4) (ah 169 21))
def MQ:=aK (dc (mX a0 Be [iv 4 1,(3,pz 11)]) [(b5 a0 fi []),(fX a0 7 8 ja [(38,η (Θ a0) 1 1),iv 39 1,iv 40 0])] (ξ ο 0) (ah 169 25))
def alc:=dc (mX a0 MQ [bv 23 Ψ,iv 4 1,(3,pz 11)]) [(b5 a0 fi []),(fX a0 7 8 ja [(38,η (Θ a0) 1 1),iv 39 1,iv 40 0])] (ξ ο 0) (aC 84 4)
def acQ:=cH 0 alc
def txe:=aK (MG (fX a0 7 8 Ar [bv 41 Ψ,(38,η (Θ a0) 1 1),iv 39 1,iv 40 0]) [] (eh 213))
abbrev cY(v0:Z9)(xc:Nat)(xe:Nat)(ca:Option Z9)(n:Nat)(m:Nat)(i:Int):List bG:=[(fX v0 xc xe ja [(38,.slice ca n m),iv 39 n,iv 40 i])]
abbrev lh(ca:Option Z9)(n:Nat)(m:Nat)(i:Int):List (Nat×θ):=[(38,.slice ca n m),iv 39 n,iv 40 i]
abbrev UA(i:Int)(n:Nat)(ca:Option Z9)(m:Nat):List (Nat×θ):=[bv 41 (decide (IntKind.wrap ο (i+1)<n)),(38,.slice ca n m),iv 39 n,iv 40 (IntKind.wrap ο (i+1))]
theorem MR(v1 v2:θ)(cs:List ZX):ak P0 Ψ 300 (aQ {fn:=213,n:=48,T:=tx3,l:=[pv 0 v0,(1,.agg #[v1,v2])]} [] cs) {frame:=Frame.enter P0 213 #[ζ (Θ v0),.agg #[v1,v2]] .normal,callers:=cs,status:=.running,dying:=ω}:=ak.run (ah 213 3) 300 (aQ.of (by kernel_rfl) (by kernel_rfl) (by kernel_rfl))
theorem acS(c:θ)(xc:Nat):kB (pz xc) {fn:=213,n:=48,T:=tx3,l:=[pv 0 v0,(1,c)]} [] {fn:=213,n:=48,T:=tx4,l:=[pv 0 v0,(3,pz xc)]} []:=fun _=>aR (ah 213 4) fun _=>by kernel_rfl
theorem acT:kB (pz xe) {fn:=213,n:=48,T:=tx4,l:=[pv 0 v0,(3,pz xc)]} [] (fX v0 xc xe Ek [(10,pz xc)]) []:=fun _=>aR (ah 213 11) fun _=>by kernel_rfl
theorem acU:kB (ξ ο 0) (fX v0 xc xe Ek [(10,pz xc)]) [] (fX v0 xc xe tB [(14,pz xc),bv 13 Ψ]) []:=fun _=>aR (ah 213 15) fun _=>by kernel_rfl
theorem acV:kB (ξ ο 0) (fX v0 xc xe tB [(14,pz xc),bv 13 Ψ]) [] (fX v0 xc xe tC [(20,pz xc)]) []:=fun _=>aR (ah 213 21) fun _=>by kernel_rfl
theorem acW:kB (ξ ο 0) (fX v0 xc xe tC [(20,pz xc)]) [] (fX v0 xc xe yx [(25,q1 xc),iv 5 0,iv 6 4]) []:=fun _=>aR (ah 213 26) fun _=>by kernel_rfl
theorem acX:kB (ξ ο 1) (fX v0 xc xe Ek [(10,pz xc)]) [] (fX v0 xc xe tB [(14,pz xc),bv 13 Ψ]) []:=fun _=>aR (ah 213 15) fun _=>by kernel_rfl
theorem acY:kB (ξ ο 1) (fX v0 xc xe tB [(14,pz xc),bv 13 Ψ]) [] (fX v0 xc xe tC [(20,pz xc)]) []:=fun _=>aR (ah 213 21) fun _=>by kernel_rfl
theorem acZ:kB (ξ ο 1) (fX v0 xc xe tC [(20,pz xc)]) [] (fX v0 xc xe yx [(25,q1 xc),iv 5 1,iv 6 1]) []:=fun _=>aR (ah 213 26) fun _=>by kernel_rfl
theorem ac0:kB (ξ ο 2) (fX v0 xc xe Ek [(10,pz xc)]) [] (fX v0 xc xe tB [(14,pz xc),bv 13 Ψ]) []:=fun _=>aR (ah 213 15) fun _=>by kernel_rfl
theorem ac1:kB (ξ ο 2) (fX v0 xc xe tB [(14,pz xc),bv 13 Ψ]) [] (fX v0 xc xe tC [(20,pz xc)]) []:=fun _=>aR (ah 213 21) fun _=>by kernel_rfl
theorem ac2:kB (ξ ο 2) (fX v0 xc xe tC [(20,pz xc)]) [] (fX v0 xc xe yx [(25,q1 xc),iv 5 2,iv 6 2]) []:=fun _=>aR (ah 213 26) fun _=>by kernel_rfl
theorem UB(lo hi:Int)(ca:Option Z9)(n m:Nat):kB (.slice ca n m) (fX v0 xc xe yx [(25,q1 xc),iv 5 lo,iv 6 hi]) [] (CV CX (decide ((n:Int)<lo)) 5) [(fX v0 xc xe Uy [iv 6 hi])]:=fun _=>aR (aC 84 4) fun _=>by kernel_rfl
theorem ac3:Ux (CV CX Ψ 5) [(fX v0 xc xe Uy [iv 6 hi])] (fX v0 xc xe MH [(31,q1 xc),iv 6 hi]) []:=fun _=>bJ (ah 213 32) fun _=>by kernel_rfl
theorem UC:kB (.slice ca n m) (fX v0 xc xe MH [(31,q1 xc),iv 6 hi]) [] (CV CX (decide ((n:Int)>hi)) 6) [(fX v0 xc xe Uz [])]:=fun _=>aR (aC 84 4) fun _=>by kernel_rfl
theorem ac4:Ux (CV CX Ψ 6) [(fX v0 xc xe Uz [])] (fX v0 xc xe MI [(37,q1 xc)]) []:=fun _=>bJ (ah 213 38) fun _=>by kernel_rfl
theorem UD:kB (.slice ca n m) (fX v0 xc xe MI [(37,q1 xc)]) [] (fX v0 xc xe Ar [bv 41 (decide ((0:Int)<n)),(38,.slice ca n m),iv 39 n,iv 40 0]) []:=fun _=>aR (aC 213 41) fun _=>by kernel_rfl
theorem ald:Ux (fX v0 xc xe Ar (bv 41 Δ::lh ca n m i)) [] (fX v0 xc xe MJ (lh ca n m i)) []:=fun _=>bJ (ah 213 42) fun _=>by kernel_rfl
theorem ale:Ux (fX v0 xc xe Ar (bv 41 Ψ::lh ca n m i)) [] (fX v0 xc xe txe []) []:=fun _=>bJ (eh 213) fun _=>by kernel_rfl
theorem UE:kB (ζ (Θ pe)) (fX v0 xc xe MJ (lh ca n m i)) [] (fX v0 xc xe MK (pv 42 pe::lh ca n m i)) []:=fun _=>aR (ah 213 43) fun _=>by kernel_rfl
theorem UF:kB (v) (fX v0 xc xe MK (pv 42 pe::lh ca n m i)) [] (fX v0 xc xe tx8 ((43,v)::lh ca n m i)) []:=fun _=>aR (ah 213 8) fun _=>by kernel_rfl
theorem ac5:kB (pz xv) (fX v0 xc xe tx8 ((43,v)::lh ca n m i)) [] (fX v0 xc xe ML ((8,pz xv)::(43,v)::lh ca n m i)) []:=fun _=>aR (eh 213) fun _=>by kernel_rfl
theorem UG:kB (undef) (fX v0 xc xe ML ((8,pz xv)::(43,v)::lh ca n m i)) [] (fX v0 xc xe GT (pv 44 v0::(8,pz xv)::lh ca n m i)) []:=fun _=>aR (ah 213 45) fun _=>by kernel_rfl
theorem UH(a b:θ):kB (.agg #[a,b]) (fX v0 xc xe GT (pv 44 v0::(8,pz xv)::lh ca n m i)) [] (b5 v0 tv3 [(1,.agg #[a,b])]) (cY v0 xc xe ca n m i):=fun _=>aR (ah 167 3) fun _=>by kernel_rfl
theorem ac6:kB (pz xw) (b5 v0 tv3 [(1,v)]) (cY v0 xc xe ca n m i) (b5 v0 MM [(4,pz xw),(3,pz xw)]) (cY v0 xc xe ca n m i):=fun _=>aR (ah 167 5) fun _=>by kernel_rfl
theorem alf:kB (ξ ο 0) (b5 v0 MM [(4,pz xw),(3,pz xw)]) (cY v0 xc xe ca n m i) (b5 v0 GU [(9,q1 xw),(3,pz xw)]) (cY v0 xc xe ca n m i):=fun _=>aR (ah 167 10) fun _=>by kernel_rfl
theorem alg:kB (ξ ο 2) (b5 v0 MM [(4,pz xw),(3,pz xw)]) (cY v0 xc xe ca n m i) (b5 v0 GW [(19,q1 xw),(3,pz xw)]) (cY v0 xc xe ca n m i):=fun _=>aR (ah 167 20) fun _=>by kernel_rfl
theorem alh:kB (ξ ο 3) (b5 v0 MM [(4,pz xw),(3,pz xw)]) (cY v0 xc xe ca n m i) (b5 v0 El [pv 26 v0,(3,pz xw)]) (cY v0 xc xe ca n m i):=fun _=>aR (ah 167 27) fun _=>by kernel_rfl
theorem ali:kB (ξ ο 4) (b5 v0 MM [(4,pz xw),(3,pz xw)]) (cY v0 xc xe ca n m i) (b5 v0 El [pv 26 v0,(3,pz xw)]) (cY v0 xc xe ca n m i):=fun _=>aR (ah 167 27) fun _=>by kernel_rfl
theorem UI:kB (ξ ο N) (b5 v0 GU [(9,q1 xw),(3,pz xw)]) (cY v0 xc xe ca n m i) (b5 v0 MN [(12,q1 xw),iv 11 (if 99<N then 99 else N),(3,pz xw)]) (cY v0 xc xe ca n m i):=fun _=>aR (ah 167 13) fun _=>by kernel_rfl
theorem UJ(M N:Int):kB (ξ ο N) (b5 v0 MN [(12,q1 xw),iv 11 M,(3,pz xw)]) (cY v0 xc xe ca n m i) (CV CX (M !=(if N< -99 then-99 else N)) 13) ((b5 v0 acO [])::cY v0 xc xe ca n m i):=fun _=>aR (aC 84 4) fun _=>by kernel_rfl
theorem ac7:Ux (CV CX Ψ 13) ((b5 v0 acO [])::cY v0 xc xe ca n m i) (fX v0 xc xe Ar (UA i n ca m)) []:=fun _=>bJ (aC 213 41) fun _=>by kernel_rfl
theorem UK:kB (ξ ο N) (b5 v0 GW [(19,q1 xw),(3,pz xw)]) (cY v0 xc xe ca n m i) (CV CX (N !=0) 13) ((b5 v0 acP [])::cY v0 xc xe ca n m i):=fun _=>aR (aC 84 4) fun _=>by kernel_rfl
theorem ac8:Ux (CV CX Ψ 13) ((b5 v0 acP [])::cY v0 xc xe ca n m i) (fX v0 xc xe Ar (UA i n ca m)) []:=fun _=>bJ (aC 213 41) fun _=>by kernel_rfl
theorem UM(a b:θ):kB (.agg #[a,b]) (b5 v0 El [pv 26 v0,(3,pz xw)]) (cY v0 xc xe ca n m i) (mX v0 tp3 [(1,.agg #[a,b])]) ((b5 v0 fi [])::cY v0 xc xe ca n m i):=fun _=>aR (ah 169 3) fun _=>by kernel_rfl
theorem ac9(xx:Nat):kB (pz xx) (mX v0 tp3 [(1,v)]) ((b5 v0 fi [])::cY v0 xc xe ca n m i) (mX v0 tp9 [pv 8 ((v0.add 0).add 1),(3,pz xx)]) ((b5 v0 fi [])::cY v0 xc xe ca n m i):=fun _=>aR (ah 169 9) fun _=>by kernel_rfl
theorem ada(oa:Option Z9)(on om:Nat):kB (.slice oa on om) (mX v0 tp9 [pv 8 ((v0.add 0).add 1),(3,pz xx)]) ((b5 v0 fi [])::cY v0 xc xe ca n m i) (mX v0 Em [(11,pz xx),iv 4 on,(3,pz xx)]) ((b5 v0 fi [])::cY v0 xc xe ca n m i):=fun _=>aR (ah 169 12) fun _=>by kernel_rfl
theorem adb:kB (ξ ο 3) (mX v0 Em [(11,pz xx),iv 4 q,(3,pz xx)]) ((b5 v0 fi [])::cY v0 xc xe ca n m i) (mX v0 MO [pv 17 ((v0.add 0).add 0),(3,pz xx)]) ((b5 v0 fi [])::cY v0 xc xe ca n m i):=fun _=>aR (ah 169 18) fun _=>by kernel_rfl
theorem adc:kB (ξ ο 4) (mX v0 Em [(11,pz xx),iv 4 q,(3,pz xx)]) ((b5 v0 fi [])::cY v0 xc xe ca n m i) (mX v0 Be [(20,q1 xx),iv 4 q,(3,pz xx)]) ((b5 v0 fi [])::cY v0 xc xe ca n m i):=fun _=>aR (ah 169 21) fun _=>by kernel_rfl
theorem UN(oa:Option Z9)(on om:Nat):kB (.slice oa on om) (mX v0 MO [pv 17 ((v0.add 0).add 0),(3,pz xx)]) ((b5 v0 fi [])::cY v0 xc xe ca n m i) (mX v0 Be [(20,q1 xx),iv 4 on,(3,pz xx)]) ((b5 v0 fi [])::cY v0 xc xe ca n m i):=fun _=>aR (ah 169 21) fun _=>by kernel_rfl
theorem UO(N:Nat):kB (ξ ο (N:Int)) (mX v0 Be [(20,q1 xx),iv 4 q,(3,pz xx)]) ((b5 v0 fi [])::cY v0 xc xe ca n m i) (mX v0 MQ [(24,q1 xx),bv 23 Ψ,iv 4 q,(3,pz xx)]) ((b5 v0 fi [])::cY v0 xc xe ca n m i):=fun _=>aR (ah 169 25) fun _=>by kernel_rfl
theorem UP:kB (ξ ο N) (mX v0 MQ [(24,q1 xx),bv 23 Ψ,iv 4 q,(3,pz xx)]) ((b5 v0 fi [])::cY v0 xc xe ca n m i) (CV CX (decide (N>=q)) 9) ((mX v0 acQ [])::(b5 v0 fi [])::cY v0 xc xe ca n m i):=fun _=>aR (aC 84 4) fun _=>by kernel_rfl
theorem ade:Ux (CV CX Ψ 9) ((mX v0 acQ [])::(b5 v0 fi [])::cY v0 xc xe ca n m i) (fX v0 xc xe Ar (UA i n ca m)) []:=fun _=>bJ (aC 213 41) fun _=>by kernel_rfl
theorem adf(c:θ):o6 {fn:=213,n:=48,T:=tx3,l:=[pv 0 v0,(1,c)]} [] (mb 76 c):=fun _=>aQ.head fun _=>by kernel_rfl
theorem adg:o6 {fn:=213,n:=48,T:=tx4,l:=[pv 0 v0,(3,pz xc)]} [] (i9 34):=fun _=>aQ.head fun _=>by kernel_rfl
theorem UQ:o6 (fX v0 xc xe Ek [(10,pz xc)]) [] (bI 3 (pz xc)):=fun _=>aQ.head fun _=>by kernel_rfl
theorem UR:o6 (fX v0 xc xe tB [(14,pz xc),bv 13 Ψ]) [] (bI 3 (pz xc)):=fun _=>aQ.head fun _=>by kernel_rfl
theorem UT:o6 (fX v0 xc xe tC [(20,pz xc)]) [] (bI 3 (pz xc)):=fun _=>aQ.head fun _=>by kernel_rfl
theorem UU(lo hi:Int):o6 (fX v0 xc xe yx [(25,q1 xc),iv 5 lo,iv 6 hi]) [] (bI 23 (q1 xc)):=fun _=>aQ.head fun _=>by kernel_rfl
theorem UV:o6 (fX v0 xc xe MH [(31,q1 xc),iv 6 hi]) [] (bI 23 (q1 xc)):=fun _=>aQ.head fun _=>by kernel_rfl
theorem UW:o6 (fX v0 xc xe MI [(37,q1 xc)]) [] (bI 23 (q1 xc)):=fun _=>aQ.head fun _=>by kernel_rfl
theorem UX:o6 (fX v0 xc xe MJ (lh ca n m i)) [] (l9 23 (.slice ca n m) (ξ ο i)):=fun _=>aQ.head fun _=>by kernel_rfl
theorem UY:o6 (fX v0 xc xe MK (pv 42 pe::lh ca n m i)) [] (bI 50 (ζ (Θ pe))):=fun _=>aQ.head fun _=>by kernel_rfl
theorem adh:o6 (fX v0 xc xe tx8 ((43,v)::lh ca n m i)) [] (i9 50):=fun _=>aQ.head fun _=>by kernel_rfl
theorem UZ:o6 (fX v0 xc xe ML ((8,pz xv)::(43,v)::lh ca n m i)) [] (gh 50 (pz xv) v):=fun _=>aQ.head fun _=>by kernel_rfl
theorem U0:o6 (fX v0 xc xe GT (pv 44 v0::(8,pz xv)::lh ca n m i)) [] (bI 50 (pz xv)):=fun _=>aQ.head fun _=>by kernel_rfl
theorem adi:o6 (b5 v0 tv3 [(1,v)]) (cY v0 xc xe ca n m i) (mb 50 v):=fun _=>aQ.head fun _=>by kernel_rfl
theorem adj:o6 (b5 v0 MM [(4,pz xw),(3,pz xw)]) (cY v0 xc xe ca n m i) (bI 3 (pz xw)):=fun _=>aQ.head fun _=>by kernel_rfl
theorem U1:o6 (b5 v0 GU [(9,q1 xw),(3,pz xw)]) (cY v0 xc xe ca n m i) (bI 3 (q1 xw)):=fun _=>aQ.head fun _=>by kernel_rfl
theorem U2(M:Int):o6 (b5 v0 MN [(12,q1 xw),iv 11 M,(3,pz xw)]) (cY v0 xc xe ca n m i) (bI 3 (q1 xw)):=fun _=>aQ.head fun _=>by kernel_rfl
theorem U3:o6 (b5 v0 GW [(19,q1 xw),(3,pz xw)]) (cY v0 xc xe ca n m i) (bI 3 (q1 xw)):=fun _=>aQ.head fun _=>by kernel_rfl
theorem U4:o6 (b5 v0 El [pv 26 v0,(3,pz xw)]) (cY v0 xc xe ca n m i) (bI 50 (pz xw)):=fun _=>aQ.head fun _=>by kernel_rfl
theorem adk:o6 (mX v0 tp3 [(1,v)]) ((b5 v0 fi [])::cY v0 xc xe ca n m i) (mb 50 v):=fun _=>aQ.head fun _=>by kernel_rfl
theorem adl:o6 (mX v0 tp9 [pv 8 ((v0.add 0).add 1),(3,pz xx)]) ((b5 v0 fi [])::cY v0 xc xe ca n m i) (bI 22 (ζ (Θ ((v0.add 0).add 1)))):=fun _=>aQ.head fun _=>by kernel_rfl
theorem U5:o6 (mX v0 Em [(11,pz xx),iv 4 q,(3,pz xx)]) ((b5 v0 fi [])::cY v0 xc xe ca n m i) (bI 3 (pz xx)):=fun _=>aQ.head fun _=>by kernel_rfl
theorem U6:o6 (mX v0 MO [pv 17 ((v0.add 0).add 0),(3,pz xx)]) ((b5 v0 fi [])::cY v0 xc xe ca n m i) (bI 22 (ζ (Θ ((v0.add 0).add 0)))):=fun _=>aQ.head fun _=>by kernel_rfl
theorem U7:o6 (mX v0 Be [(20,q1 xx),iv 4 q,(3,pz xx)]) ((b5 v0 fi [])::cY v0 xc xe ca n m i) (bI 3 (q1 xx)):=fun _=>aQ.head fun _=>by kernel_rfl
theorem U8:o6 (mX v0 MQ [(24,q1 xx),bv 23 Ψ,iv 4 q,(3,pz xx)]) ((b5 v0 fi [])::cY v0 xc xe ca n m i) (bI 3 (q1 xx)):=fun _=>aQ.head fun _=>by kernel_rfl
theorem adm:o6 (fX v0 xc xe txe []) [] (gh 34 (pz xe) (ξ ο 0)):=fun _=>aQ.head fun _=>by kernel_rfl
def fR(xe:Nat)(T:List Item)(ex:List (Nat×θ)):bG:={fn:=248,n:=3,T,l:=ex++[(0,pz xe)],kind:=.deferred}
def As(v0:Z9)(xc xe:Nat)(T:List Item):bG:={fn:=213,n:=48,T,l:=[pv 0 v0,(3,pz xc),(4,pz xe)],mode:=.returning}
def gxz:=dc (fX a0 7 8 txe []) [] undef (ah 248 1)
def tr1:=aK gxz
def KP:=cH 0 gxz
def GX:=aK (dc (fR 8 tr1 []) [As a0 7 8 KP] .nilIface (eh 248))
def txz:=aK (dc (fR 8 GX [iv 2 0]) [As a0 7 8 KP] undef (lQ 213))
theorem GY(cs:List ZX)(g:Ω)(h:aQ (fR xe tr1 []) [As v0 xc xe KP] cs g)(w:μ):stepG P0 Ψ g w=.go (fin .nilIface g) w #[]:=by obtain⟨F,rfl⟩:=h;kernel_rfl
theorem adp:kB (undef) (fX v0 xc xe txe []) [] (fR xe tr1 []) [(As v0 xc xe KP)]:=fun _=>aR (ah 248 1) fun _=>by kernel_rfl
theorem adq:kB (.nilIface) (fR xe tr1 []) [(As v0 xc xe KP)] (fR xe GX [iv 2 0]) [(As v0 xc xe KP)]:=fun _=>aR (eh 248) fun _=>by kernel_rfl
theorem U9:o6 (fR xe GX [iv 2 0]) [(As v0 xc xe KP)] (gh 34 (pz xe) (ξ ο 0)):=fun _=>aQ.head fun _=>by kernel_rfl
theorem U':kB (undef) (fR xe GX [iv 2 0]) [(As v0 xc xe KP)] (As v0 xc xe txz) []:=fun _=>aR (lQ 213) fun _=>by kernel_rfl
end
section
structure yy(n0:Nat)(Y X X':Nat->Prop)(w w':μ)(es:Array ZW):Prop where
 tape:w'.tape=w.tape
 drawn:w'.drawn=w.drawn
 os:w'.os=w.os
 output:w'.output=w.output
 size:w.heap.size<=w'.heap.size
 others:∀x,x<w.heap.size->¬X x->w'.heap[x]?=w.heap[x]?
 grow:∀x,X x->X' x
 fresh:∀x,X' x->¬X x->w.heap.size<=x
 full:∀x,w.heap.size<=x->x<w'.heap.size->X' x
 Ft:∀e∈es,match e.loc with
  |.cell a=>(X' a.block\/(a.block<n0/\e.write=Ψ/\Y a.block))/\e.sync=Ψ
  |.obj r=>X' r/\e.sync=Ψ
  |.mark (.extern _)=>True
  |_=>False
structure PK where
 B0:Nat
 h0:Array Obj
 Y:Nat->Prop
 TT:Z7->Prop
 C:Nat
structure o7(K:PK)(X:List Nat)(O:List (Nat×Obj))(w:μ):Prop where
 old:∀b,b<K.B0->w.heap[b]?=K.h0[b]?
 size:K.B0<=w.heap.size
 own:∀x∈X,K.B0<=x/\x<w.heap.size/\∃cs e f,w.heap[x]?=Θ (.cells cs e f)/\K.TT e
 known:∀p∈O,p.1∈X/\w.heap[p.1]?=Θ p.2
def PX(K:PK)(gE:Ω):Nat->List Nat->List (Nat×Obj) ->Ω->Prop
 |0,_,_,_=>False
 |N+1,X,O,g=>g.status=.running/\∀w,o7 K X O w->
   (X.length<=K.C/\∃w' es,stepG P0 Ψ g w=.go gE w' es/\yy K.B0 K.Y (·∈X) (·∈X) w w' es/\o7 K X O w')\/
   ∃g' X' O' w' es,stepG P0 Ψ g w=.go g' w' es/\yy K.B0 K.Y (·∈X) (·∈X') w w' es/\o7 K X' O' w'/\PX K gE N X' O' g'
section
variable{K:PK}{gE g g':Ω}{N:Nat}{X:List Nat}{O:List (Nat×Obj)}{w w':μ}
theorem PX.running(h:PX K gE N X O g):g.status=.running:=by
 cases N with
 |zero=>exact h.elim
 |succ N=>exact h.1
theorem PX.mono:∀{N M:Nat} {X:List Nat} {O:List (Nat×Obj)} {g:Ω},N<=M->PX K gE N X O g->PX K gE M X O g
 |0,_,_,_,_,_,h=>h.elim
 |N+1,0,_,_,_,hM,_=>by omega
 |N+1,M+1,X,O,g,hM,h=>by refine⟨h.1,fun w hw=>(h.2 w hw).imp id ?_⟩;rintro⟨g',X',O',w',es,h1,h2,h3,h4⟩;exact⟨g',X',O',w',es,h1,h2,h3,PX.mono (by omega) h4⟩
theorem o7.others(h:o7 K X O w)(hs:w.heap.size<=w'.heap.size)(hY:∀b,b<K.B0->w'.heap[b]?=w.heap[b]?)(hX:∀x,x∈X->w'.heap[x]?=w.heap[x]?):o7 K X O w':=by
 refine⟨fun b hb=>(hY b hb).trans (h.old b hb),Nat.le_trans h.size hs,fun x d=>?_,fun p g=>?_⟩
 ·obtain⟨a,c,cs,e,f,j,i⟩:=h.own x d;exact⟨a,Nat.lt_of_lt_of_le c hs,cs,e,f,by rw[hX x d];exact j,i⟩
 ·obtain⟨a,c⟩:=h.known p g;exact⟨a,by rw[hX _ a];exact c⟩
theorem mY{Y:Nat->Prop}{n0:Nat}{Xp:Nat->Prop}{es:Array ZW} (he:∀e∈es,match e.loc with
 |.cell a=>(Xp a.block\/(a.block<n0/\e.write=Ψ/\Y a.block))/\e.sync=Ψ
 |.obj r=>Xp r/\e.sync=Ψ
 |.mark (.extern _)=>True
 |_=>False):yy n0 Y Xp Xp w w es:=
 ⟨rfl,rfl,rfl,rfl,Nat.le_refl _,fun _ _ _=>rfl,fun _ h=>h,fun x b c=>absurd b c,fun x b c=>absurd c (Nat.not_lt.2 b),he⟩
theorem PX.path(h:PX K gE N X O g'):∀{k:Nat} {g:Ω},Path P0 Ψ k g g'->PX K gE (N+k) X O g
 |0,g,hp=>by have:g'=g:=hp;rw[<-this];exact h
 |k+1,g,hp=>by obtain⟨hr,g1,hst,h1⟩:=hp;exact⟨hr,fun w hw=>.inr ⟨g1,X,O,w,#[],hst w,mY (by simp),hw,PX.path h h1⟩⟩
theorem PX.to{n:Nat}{S:Ω->Prop}(hp:ak P0 Ψ n S g)(h:∀g',S g'->PX K gE N X O g'):PX K gE (N+n) X O g:=by obtain⟨k,b,g',a,hs⟩:=hp;exact PX.mono (by omega) ((h g' hs).path a)
theorem PX.look{n:Nat}{S:Ω->Prop}{es:Array ZW}(hr:g.status=.running)(hst:∀w,o7 K X O w->stepG P0 Ψ g w=.go g' w es)
 (he:∀e∈es,∃a,e=⟨.cell a,Ψ,Ψ⟩/\(a.block∈X\/(a.block<K.B0/\K.Y a.block))) (hp:ak P0 Ψ n S g') (h:∀g',S g'->PX K gE N X O g'):PX K gE (N+n+1) X O g:=by
 refine⟨hr,fun w hw=>.inr ⟨g',X,O,w,es,hst w hw,mY (fun e b=>?_),hw,PX.to hp h⟩⟩;obtain⟨a,rfl,c⟩:=he e b;exact⟨c.imp id fun h=>⟨h.1,rfl,h.2⟩,rfl⟩
theorem yz(w:μ)(cs:Array θ)(e:Z7):(w.alloc (.cells cs e)).heap.size=w.heap.size+1/\(∀x,x<w.heap.size->(w.alloc (.cells cs e)).heap[x]?=w.heap[x]?)/\(w.alloc (.cells cs e)).heap[w.heap.size]?=Θ (.cells cs e):=by
 refine⟨?_,fun x a=>?_,?_⟩
 ·show(w.heap.push _).size=_;rw[ZV]
 ·show(w.heap.push _)[x]?=_;rw[υ a,ψ a]
 ·show(w.heap.push _)[w.heap.size]?=_;rw[Array.getElem?_push_size]
theorem PX.new{n:Nat}{S:Nat->Ω->Prop}{cs:Array θ}{e:Z7}(hr:g.status=.running)(hT:K.TT e)(g1:Nat->Ω)(hst:∀w,o7 K X O w->stepG P0 Ψ g w=.go (g1 w.heap.size) (w.alloc (.cells cs e)) #[])
 (hp:∀x,ak P0 Ψ n (S x) (g1 x)) (h:∀x g',K.B0<=x->S x g'->PX K gE N (x::X) ((x,.cells cs e)::O) g'):PX K gE (N+n+1) X O g:=by
 refine⟨hr,fun w hw=>.inr ⟨g1 w.heap.size,w.heap.size::X,(w.heap.size,.cells cs e)::O,w.alloc (.cells cs e),#[],hst w hw,⟨rfl,rfl,rfl,rfl,?_,fun x c k=>?_,fun x c=>List.mem_cons_of_mem _ c,fun x c k=>?_,fun x f i=>?_,by simp⟩,⟨fun b hb=>?_,?_,fun x c=>?_,fun p hp=>?_⟩,PX.to (hp _) (fun g' hs=>h _ g' hw.size hs)⟩⟩
 all_goals obtain⟨r,d,a⟩:=yz w cs e
 ·omega
 ·exact d x c
 ·rcases List.mem_cons.1 c with rfl|c
  ·exact Nat.le_refl _
  ·exact absurd c k
 ·have:x=w.heap.size:=by omega
  subst this;exact List.mem_cons_self
 ·rw[d b (Nat.lt_of_lt_of_le hb hw.size)];exact hw.old b hb
 ·have:=hw.size;omega
 ·rcases List.mem_cons.1 c with rfl|c
  ·exact⟨hw.size,by omega,cs,e,_,a,hT⟩
  ·obtain⟨f,i,j,q,m,o,l⟩:=hw.own x c;exact⟨f,by omega,j,q,m,by rw[d x i];exact o,l⟩
 ·rcases List.mem_cons.1 hp with rfl|hp
  ·exact⟨List.mem_cons_self,a⟩
  ·obtain⟨f,i⟩:=hw.known p hp;exact⟨List.mem_cons_of_mem _ f,by rw[d _ (hw.own _ f).2.1];exact i⟩
theorem PX.qu{n:Nat}{S:Ω->Prop}{x:Nat}{cs cs':Array θ}{e:Z7}{O':List (Nat×Obj)}{es:Array ZW}(hr:g.status=.running)(hx:(x,.cells cs e)∈O)(hO:∀p∈O',p=(x,.cells cs' e)\/(p∈O/\p.1≠x))
 (hst:∀w,o7 K X O w->w.heap[x]?=Θ (.cells cs e) ->∃w',stepG P0 Ψ g w=.go g' w' es/\w'.tape=w.tape/\w'.drawn=w.drawn/\w'.os=w.os/\w'.output=w.output/\w'.heap.size=w.heap.size/\w'.heap[x]?=Θ (.cells cs' e)/\∀y,y≠x->w'.heap[y]?=w.heap[y]?)
 (he:∀ev∈es,∃a wr,ev=⟨.cell a,wr,Ψ⟩/\a.block=x) (hp:ak P0 Ψ n S g') (h:∀g',S g'->PX K gE N X O' g'):PX K gE (N+n+1) X O g:=by
 refine⟨hr,fun w hw=>.inr ?_⟩;obtain⟨c,d⟩:=hw.known _ hx;obtain⟨w',k,j,A,v,z,C,r,m⟩:=hst w hw d;refine⟨g',X,O',w',es,k,⟨j,A,v,z,by omega,fun y s B=>m y (fun e=>B (e▸c)),fun _ h=>h,fun y k j=>absurd k j,fun y k j=>by omega,fun ev o=>?_⟩,⟨fun b hb=>?_,by rw[C];exact hw.size,fun y s=>?_,fun p hp=>?_⟩,PX.to hp h⟩
 ·obtain⟨a,wr,rfl,D⟩:=he ev o;exact⟨.inl (by show a.block∈X;rw[D];exact c),rfl⟩
 ·rw[m b (fun e=>by have:=(hw.own x c).1;omega)];exact hw.old b hb
 ·obtain⟨q1,t,q,e1,u,f,l⟩:=hw.own y s;refine⟨q1,by omega,?_⟩;by_cases i:y=x
  ·subst i;rw[d]at f;cases f
   exact⟨_,_,_,r,l⟩
  ·exact⟨q,e1,u,by rw[m y i];exact f,l⟩
 ·rcases hO p hp with rfl|⟨q1,t⟩
  ·exact⟨c,r⟩
  ·obtain⟨f,l⟩:=hw.known p q1;exact⟨f,by rw[m _ t];exact l⟩
end
end
end Ph
namespace Ph
open Go Go.Conc
open Go.ConcN (RelBy fork_knows)
section
def blk:Loc->Nat
 |.cell a=>a.block
 |.obj r=>r
 |_=>0
theorem cc{t u:Trace}{i:Nat}{x:Touch}(h:Z3 (t++u) i=Θ x):(i<t.size/\Z3 t i=Θ x)\/∃op,op∈u/\op.act.touch?=Θ x/\(t++u)[i]?=Θ op:=by
 obtain⟨op,b,c⟩:=touch_of h;rcases getElem?_append_cases b with⟨hi,a⟩|⟨_,d⟩
 ·exact .inl ⟨hi,by rw[touchAt_of a];exact c⟩
 ·exact .inr ⟨op,d,c,b⟩
theorem CY{B:Nat}{act:MemAct}{x:Touch}(h:act.low B)(hx:act.touch?=Θ x)(hm:x.loc.isMemory=Δ):blk x.loc<B:=by
 cases act with
 |access e=>simp only[φ,κ]at hx;subst hx;obtain⟨loc,wr,a⟩:=e;cases loc<;>first|exact h|(simp[Loc.isMemory]at hm)
 |mark m=>
  cases m<;>simp only[φ,κ,reduceCtorEq]at hx
  ·subst hx;exact h
  ·subst hx;exact h
 |_=>simp[φ]at hx
section
variable(Shun ic:Loc->Prop)(Own:Nat->Loc->Prop)(p0 r Z:Nat)(H:Nat->Nat)(B:Nat)
structure TI(t:Trace):Prop where
 clean:∀said,¬Race said t
 seen:∀op∈t,op.act.low B
 quiet:∀i x,Z3 t i=Θ x->ic x.loc->x.kind≠.plain/\(x.kind=.said->t.g? i=Θ 0)
 known:∀i x,Z3 t i=Θ x->x.loc.isMemory=Δ->(Shun x.loc/\x.kind=.atomic)\/ic x.loc\/
  (∃j,j<r/\t.g? i=Θ (p0+j)/\x.kind≠.atomic/\(Own j x.loc\/(x.write=Ψ/\blk x.loc<Z/\∀k,¬Own k x.loc)))\/Knows t 0 i
 wk:∀j,j<r->∀i x,Z3 t i=Θ x->x.loc.isMemory=Δ->(Own j x.loc\/(x.write=Δ/\blk x.loc<H j/\¬ic x.loc/\¬Shun x.loc/\∀k,¬Own k x.loc)) ->Knows t (p0+j) i
 over:∀i g,t.g? i=Θ g->g≠0->(g<p0\/p0+r<=g) ->t.counts i->∃j,t.g? j=Θ 0/\Z2 t i j
structure Fam:Prop where
 own:∀k k' l,Own k l->Own k' l->k=k'
 ownSh:∀k l,Own k l->¬ic l/\¬Shun l
 hz:∀j,j<r->H j<=Z
 pos:0<p0
 QS:∀l,ic l->l.isMemory=Δ
def OkW(j:Nat)(op:MemOp):Prop:=op.g=p0+j/\∀x,op.act.touch?=Θ x->x.loc.isMemory=Δ->(ic x.loc/\x.kind=.atomic)\/(x.kind≠.atomic/\Own j x.loc)\/(x.kind≠.atomic/\x.write=Ψ/\blk x.loc<H j/\¬ic x.loc/\¬Shun x.loc/\∀k,¬Own k x.loc)
def Ok0(op:MemOp):Prop:=op.g=0/\∀x,op.act.touch?=Θ x->x.loc.isMemory=Δ->(ic x.loc/\x.kind≠.plain)\/(¬ic x.loc/\¬Shun x.loc/\(∀k,¬Own k x.loc)/\(x.write=Δ->Z<=blk x.loc))
end
section
variable{Shun ic:Loc->Prop}{Own Own':Nat->Loc->Prop}{p0 r Z Z':Nat}{H H':Nat->Nat}{B B':Nat}{t u:Trace}
theorem TI.mono(h:TI Shun ic Own p0 r Z H B t)(hB:B<=B'):TI Shun ic Own p0 r Z H B' t:=⟨h.clean,fun op a=>MemAct.low_mono hB (h.seen op a),h.quiet,h.known,h.wk,h.over⟩
theorem TI.low(h:TI Shun ic Own p0 r Z H B t){i:Nat}{x:Touch}(hx:Z3 t i=Θ x)(hm:x.loc.isMemory=Δ):blk x.loc<B:=by obtain⟨op,b,a⟩:=touch_of hx;exact CY (h.seen op (Z4 b)) a hm
theorem TI.grow(h:TI Shun ic Own p0 r Z H B t)(h1:∀k l,Own k l->Own' k l)(h2:∀k l,Own' k l->Own k l\/B<=blk l):TI Shun ic Own' p0 r Z H B t:=by
 have b:∀{i x k},Z3 t i=Θ x->x.loc.isMemory=Δ->Own' k x.loc->Own k x.loc:=fun d c a=>(h2 _ _ a).elim id fun hb=>absurd (h.low d c) (Nat.not_lt.2 hb)
 refine⟨h.clean,h.seen,h.quiet,fun i x d c=>?_,fun j e i x d c a=>h.wk j e i x d c ?_,h.over⟩
 ·rcases h.known i x d c with k|k|⟨j,e,q,g,k⟩|k
  ·exact .inl k
  ·exact .inr (.inl k)
  ·refine .inr (.inr (.inl ⟨j,e,q,g,?_⟩));rcases k with k|⟨f,m,n⟩
   ·exact .inl (h1 _ _ k)
   ·exact .inr ⟨f,m,fun k a=>n k (b d c a)⟩
  ·exact .inr (.inr (.inr k))
 ·rcases a with a|⟨v,u,p,s,o⟩
  ·exact .inl (b d c a)
  ·exact .inr ⟨v,u,p,s,fun k a=>o k (h1 _ _ a)⟩
theorem nS(h:∀i g,t.g? i=Θ g->g≠0->(g<p0\/p0+r<=g) ->t.counts i->∃j,t.g? j=Θ 0/\Z2 t i j)
 (hu:∀op∈u,op.g=0\/op.act.touch?=ω\/(p0<=op.g/\op.g<p0+r)):∀i g,(t++u).g? i=Θ g->g≠0->(g<p0\/p0+r<=g) ->(t++u).counts i->∃j,(t++u).g? j=Θ 0/\Z2 (t++u) i j:=by
 intro i g l b e hc;obtain⟨op,f,d⟩:=ε.1 l;rcases getElem?_append_cases f with⟨hi,_⟩|⟨_,m⟩
 ·obtain⟨j,k,p⟩:=h i g (by rw[<-χ (u:=u) hi];exact l) b e ((counts_old hi).1 hc);have o:j<t.size:=by obtain⟨z,hz,_⟩:=ε.1 k;exact lt_size_of_getElem? hz
  exact⟨j,by rw[χ o];exact k,hb_app u p⟩
 ·rcases hu op m with h0|h0|h0
  ·exact absurd (d.symm.trans h0) b
  ·obtain⟨x,q,_⟩:=hc;obtain⟨n,c,a⟩:=touch_of q;rw[f]at c;cases c
   rw[h0]at a;cases a
  ·omega
theorem TI.appW(F:Fam Shun ic Own p0 r Z H)(h:TI Shun ic Own p0 r Z H B t){j:Nat}(hj:j<r)(hu:∀op∈u,OkW Shun ic Own p0 H j op)(hl:∀op∈u,op.act.low B):TI Shun ic Own p0 r Z H B (t++u):=by
 refine⟨fun n=>?_,seen_app h.seen hl,fun i x o hs=>?_,fun i x o m=>?_,fun k l i x o m f=>?_,nS h.over fun op c=>.inr (.inr ?_)⟩
 ·refine Z1 (h.clean n) (fun op c=>(hu op c).1) fun i a w op c b hb hc=>?_
  obtain⟨c1,c2,c3,E⟩:=hc;rcases(hu op c).2 b hb (c1▸c2)with⟨hs,l⟩|⟨_,f⟩|⟨_,hw,hz,hs,v,f⟩
  ·exfalso;have:=h.quiet i a w (c1▸hs);rcases E with e|e|⟨_,_,e⟩
   ·exact this.1 e
   ·rw[l]at e;cases e
   ·rw[l]at e;cases e
  ·exact h.wk j hj i a w c2 (.inl (c1▸f))
  ·exact h.wk j hj i a w c2 (.inr ⟨c3.resolve_right (by simp[hw]),c1▸hz,c1▸hs,c1▸v,by rw[c1];exact f⟩)
 ·rcases cc o with⟨hi,d⟩|⟨op,c,d,f⟩
  ·obtain⟨q1,G⟩:=h.quiet i x d hs;exact⟨q1,fun e=>by rw[χ hi];exact G e⟩
  ·by_cases m:x.loc.isMemory=Δ
   ·rcases(hu op c).2 x d m with⟨_,l⟩|⟨_,f⟩|⟨_,_,_,p,_⟩
    ·rw[l];exact⟨by simp,by simp⟩
    ·exact absurd hs (F.ownSh _ _ f).1
    ·exact absurd hs p
   ·exact absurd (F.QS _ hs) m
 ·rcases cc o with⟨hi,d⟩|⟨op,c,d,f⟩
  ·rcases h.known i x d m with k|k|⟨z,s,A,k⟩|k
   ·exact .inl k
   ·exact .inr (.inl k)
   ·exact .inr (.inr (.inl ⟨z,s,by rw[χ hi];exact A,k⟩))
   ·exact .inr (.inr (.inr (k.app u)))
  ·rcases(hu op c).2 x d m with⟨hs,_⟩|⟨l,g⟩|⟨l,hw,hz,_,_,p⟩
   ·exact .inr (.inl hs)
   ·exact .inr (.inr (.inl ⟨j,hj,by simp[Trace.g?,f,(hu op c).1],l,.inl g⟩))
   ·exact .inr (.inr (.inl ⟨j,hj,by simp[Trace.g?,f,(hu op c).1],l,.inr ⟨hw,Nat.lt_of_lt_of_le hz (F.hz j hj),p⟩⟩))
 ·rcases cc o with⟨hi,d⟩|⟨op,c,d,q⟩
  ·exact(h.wk k l i x d m f).app u
  ·have own:=knows_own q;rw[(hu op c).1]at own;rcases(hu op c).2 x d m with⟨hs,_⟩|⟨_,g⟩|⟨_,hw,_,_,_,p⟩
   ·rcases f with f|⟨_,_,D,_,_⟩
    ·exact absurd hs (F.ownSh _ _ f).1
    ·exact absurd hs D
   ·rcases f with f|⟨_,_,_,_,C⟩
    ·rw[F.own _ _ _ f g];exact own
    ·exact absurd g (C j)
   ·rcases f with f|⟨y,_⟩
    ·exact absurd f (p k)
    ·rw[hw]at y;cases y
 ·rw[(hu op c).1];omega
theorem TI.app0(F:Fam Shun ic Own p0 r Z H)(h:TI Shun ic Own p0 r Z H B t)(hu:∀op∈u,Ok0 Shun ic Own Z op)(hl:∀op∈u,op.act.low B):TI Shun ic Own p0 r Z H B (t++u):=by
 have own:∀{i:Nat} {op:MemOp},op∈u->(t++u)[i]?=Θ op->Knows (t++u) 0 i:=fun c f=>by have:=knows_own f;rwa[(hu _ c).1]at this
 refine⟨fun l=>?_,seen_app h.seen hl,fun i x m hs=>?_,fun i x m o=>?_,fun k g i x m o f=>?_,nS h.over fun op c=>.inl (hu op c).1⟩
 ·refine Z1 (h.clean l) (fun op c=>(hu op c).1) fun i a y op c b hb hc=>?_
  obtain⟨c1,c2,c3,I⟩:=hc;rcases(hu op c).2 b hb (c1▸c2)with⟨hs,g⟩|⟨hs,v,f,hw⟩
  ·obtain⟨q1,w⟩:=h.quiet i a y (c1▸hs);rcases I with e|e|⟨_,e,_⟩
   ·exact absurd e q1
   ·exact absurd e g
   ·have n:=w e;obtain⟨z,hz,p⟩:=ε.1 n;have:=knows_own hz;rwa[p]at this
  ·rcases h.known i a y c2 with k|k|⟨j,L,n,g,k⟩|k
   ·exact absurd (c1▸k.1) v
   ·exact absurd (c1▸k) hs
   ·exfalso;rcases k with k|⟨C,K,_⟩
    ·exact f j (c1▸k)
    ·rcases c3 with e|e
     ·rw[C]at e;cases e
     ·have:=hw e;rw[<-c1]at this;omega
   ·exact k
 ·rcases cc m with⟨hi,d⟩|⟨op,c,d,f⟩
  ·obtain⟨q1,w⟩:=h.quiet i x d hs;exact⟨q1,fun e=>by rw[χ hi];exact w e⟩
  ·rcases(hu op c).2 x d (F.QS _ hs)with⟨_,g⟩|⟨s,_⟩
   ·exact⟨g,fun _=>by simp[Trace.g?,f,(hu op c).1]⟩
   ·exact absurd hs s
 ·rcases cc m with⟨hi,d⟩|⟨op,c,d,f⟩
  ·rcases h.known i x d o with k|k|⟨D,q,n,k⟩|k
   ·exact .inl k
   ·exact .inr (.inl k)
   ·exact .inr (.inr (.inl ⟨D,q,by rw[χ hi];exact n,k⟩))
   ·exact .inr (.inr (.inr (k.app u)))
  ·exact .inr (.inr (.inr (own c f)))
 ·rcases cc m with⟨hi,d⟩|⟨op,c,d,A⟩
  ·exact(h.wk k g i x d o f).app u
  ·exfalso;rcases(hu op c).2 x d o with⟨hs,_⟩|⟨_,_,s,hw⟩
   ·rcases f with f|⟨_,_,G,_,_⟩
    ·exact(F.ownSh _ _ f).1 hs
    ·exact G hs
   ·rcases f with f|⟨E,J,_⟩
    ·exact s k f
    ·have:=hw E;have:=F.hz k g;omega
theorem TI.CZ(h:TI Shun ic Own p0 r Z H B t){g:Nat}(hg:∀op∈u,op.g=g)(hn:∀op∈u,op.act.touch?=ω)(hl:∀op∈u,op.act.low B):TI Shun ic Own p0 r Z H B (t++u):=by
 have old:∀{i:Nat} {x:Touch},Z3 (t++u) i=Θ x->i<t.size/\Z3 t i=Θ x:=fun f=>by
  rcases cc f with h|⟨op,d,c,_⟩
  ·exact h
  ·rw[hn op d]at c;cases c
 refine⟨fun j=>Z1 (h.clean j) hg fun i a s op d b hb hc=>(by rw[hn op d]at hb;cases hb),seen_app h.seen hl,fun i x f hs=>?_,fun i x f l=>?_,fun k o i x f l p=>(h.wk k o i x (old f).2 l p).app u,nS h.over fun op d=>.inr (.inl (hn op d))⟩
 ·obtain⟨hi,c⟩:=old f;obtain⟨q1,q⟩:=h.quiet i x c hs;exact⟨q1,fun e=>by rw[χ hi];exact q e⟩
 ·obtain⟨hi,c⟩:=old f;rcases h.known i x c l with k|k|⟨n,m,hg,k⟩|k
  ·exact .inl k
  ·exact .inr (.inl k)
  ·exact .inr (.inr (.inl ⟨n,m,by rw[χ hi];exact hg,k⟩))
  ·exact .inr (.inr (.inr (k.app u)))
theorem TI.fork(F:Fam Shun ic Own p0 r Z H)(h:TI Shun ic Own p0 r Z H B t){x y:MemOp}(hx:x.g=0/\x.act=.go (p0+r))(hy:y.g=p0+r/\y.act=.start)(h0:Deaf t 0=0)(hk:Deaf t (p0+r)=0)
 (hH:∀j,j<r->H' j=H j) (hZ:Z<=Z'):TI Shun ic Own p0 (r+1) Z' H' B (t++#[x,y]):=by
 have l:∀op∈#[x,y],op.act.touch?=ω:=by
  intro op c;simp only[List.mem_toArray,List.mem_cons,List.not_mem_nil,or_false]at c;rcases c with rfl|rfl
  ·rw[hx.2];rfl
  ·rw[hy.2];rfl
 have old:∀{i:Nat} {a:Touch},Z3 (t++#[x,y]) i=Θ a->i<t.size/\Z3 t i=Θ a:=fun m=>by
  rcases cc m with h|⟨op,c,n,_⟩
  ·exact h
  ·rw[l op c]at n;cases n
 have e:t++#[x,y]=(t++#[x])++#[y]:=by apply Array.ext';simp
 refine⟨fun o=>?_,seen_app h.seen fun op c=>?_,fun i a m hs=>?_,fun i a m s=>?_,fun j N i a m s d=>?_,fun i g q w L hc=>nS (u:=#[x,y]) h.over (fun op c=>.inr (.inl (l op c))) i g q w (by omega) hc⟩
 ·rw[e];exact Z1 (g:=p0+r) (Z1 (g:=0) (h.clean o) (fun op c=>by simp at c;rw[c];exact hx.1) (fun i a _ op c b hb _=>by rw[l op (by simp at c⊢;exact .inl c)]at hb;cases hb))
   (fun op c=>by simp at c;rw[c];exact hy.1) (fun i a _ op c b hb _=>by rw[l op (by simp at c⊢;exact .inr c)]at hb;cases hb)
 ·simp only[List.mem_toArray,List.mem_cons,List.not_mem_nil,or_false]at c;rcases c with rfl|rfl
  ·rw[hx.2];trivial
  ·rw[hy.2];trivial
 ·obtain⟨hi,f⟩:=old m;obtain⟨q1,M⟩:=h.quiet i a f hs;exact⟨q1,fun e=>by rw[χ hi];exact M e⟩
 ·obtain⟨hi,f⟩:=old m;rcases h.known i a f s with k|k|⟨C,A,q,D,k⟩|k
  ·exact .inl k
  ·exact .inr (.inl k)
  ·refine .inr (.inr (.inl ⟨C,by omega,by rw[χ hi];exact q,D,?_⟩));rcases k with k|⟨v,K,z⟩
   ·exact .inl k
   ·exact .inr ⟨v,by omega,z⟩
  ·exact .inr (.inr (.inr (k.app _)))
 ·obtain⟨hi,f⟩:=old m;by_cases p:j<r
  ·rw[hH j p]at d;exact(h.wk j p i a f s d).app _
  ·obtain rfl:j=r:=by omega
   refine fork_knows hx hy h0 hk ?_;rcases h.known i a f s with k|k|⟨C,A,q,D,k⟩|k
   ·exfalso;rcases d with d|⟨_,_,_,J,_⟩
    ·exact(F.ownSh _ _ d).2 k.1
    ·exact J k.1
   ·exfalso;rcases d with d|⟨_,_,I,_⟩
    ·exact(F.ownSh _ _ d).1 k
    ·exact I k
   ·exfalso;rcases k with k|⟨v,K,z⟩
    ·rcases d with d|⟨_,_,_,_,G⟩
     ·have:=F.own _ _ _ k d;omega
     ·exact G _ k
    ·rcases d with d|⟨E,_⟩
     ·exact z _ d
     ·rw[v]at E;cases E
   ·exact k
theorem TI.GZ(F:Fam Shun ic Own p0 r Z H)(h:TI Shun ic Own p0 r Z H B t){a:Z9}(hr:∀j,j<r->∃i,RelBy a t (p0+j) i)(hn:NoRelease a t)(h0:Deaf t 0=0){y:MemOp}(hy:y.g=0/\y.act=.mark (.acquire a))(ha:a.block<B):
 Past (fun l=>Shun l\/ic l) B (t++#[y]):=by
 have d:(t++#[y])[t.size]?=Θ y:=by rw[Array.getElem?_append_right (Nat.le_refl _)];simp
 have w:∀op∈#[y],op.act.touch?=ω:=by intro op b;simp only[List.mem_toArray,List.mem_cons,List.not_mem_nil,or_false]at b;rw[b,hy.2];rfl
 have s:∀op∈#[y],op.act.low B:=by intro op b;simp only[List.mem_toArray,List.mem_cons,List.not_mem_nil,or_false]at b;rw[b,hy.2];exact ha
 have I:=h.CZ (u:=#[y]) (g:=0) (fun op b=>by simp at b;rw[b];exact hy.1) w s;have M:(t++#[y]).heard t.size:=⟨0,by simp[Trace.g?,d,hy.1],by rw[deaf_old (Nat.le_refl _)];exact h0⟩;have n:∀{j i:Nat},j<r->i<t.size->t.g? i=Θ (p0+j) ->t.counts i->Z2 (t++#[y]) i t.size:=by
  intro j i J hi f hc;obtain⟨q,A⟩:=hr j J;have e:q<t.size:=lt_of_act? A.act;have O:i<=q:=Nat.le_of_not_lt fun o=>A.after i o f hc
  have m:Z2 (t++#[y]) q t.size:=.single (.inr ⟨.marked e (.inr (by rw[act?_old e];exact A.act)) (by rw[act?_of d,hy.2]) (fun k _ G=>by rw[act?_old G];exact hn k),(heard_old e).2 A.heard,M⟩);rcases Nat.lt_or_ge i q with o|p
  ·exact .trans (.single (.inl ⟨o,p0+j,by rw[χ hi];exact f,by rw[χ e];exact A.g⟩)) m
  ·obtain rfl:i=q:=by omega
   exact m
 refine⟨I.clean,fun i x N C=>?_,fun i g f v hc=>?_,?_,I.seen⟩
 ·rcases cc N with⟨hi,c⟩|⟨op,b,c,_⟩
  ·rcases h.known i x c C with k|k|⟨j,J,f,G,k⟩|k
   ·exact .inr ⟨.inl k.1,k.2⟩
   ·obtain⟨q1,P⟩:=h.quiet i x c k;cases hkd:x.kind with
    |plain=>exact absurd hkd q1
    |atomic=>exact .inr ⟨.inr k,rfl⟩
    |said=>left;obtain⟨z,hz,E⟩:=ε.1 (P hkd);have:=knows_own hz;rw[E]at this;exact this.app _
   ·exact .inl ⟨t.size,y,d,hy.1,.inr (n J hi f ⟨x,c,C,.inl G⟩)⟩
   ·exact .inl (k.app _)
  ·rw[w op b]at c;cases c
 ·by_cases K:g<p0\/p0+r<=g
  ·exact I.over i g f v K hc
  ·have hi:i<t.size:=by
    apply Classical.byContradiction;intro p;obtain⟨op,L,D⟩:=ε.1 f;rcases getElem?_append_cases L with⟨hi,_⟩|⟨_,C⟩
    ·exact p hi
    ·simp at C;rw[C,hy.1]at D;exact v D.symm
   obtain⟨j,rfl⟩:∃j,g=p0+j:=⟨g-p0,by omega⟩;exact⟨t.size,by simp[Trace.g?,d,hy.1],n (j:=j) (by omega) hi (by rw[<-χ (u:=#[y]) hi];exact f) ((counts_old hi).1 hc)⟩
 ·rw[Deaf_push];unfold deafStep;rw[hy.2];exact h0
theorem TI.start(h:Past Shun B t)(h2:∀l,ic l->B<=blk l/\l.isMemory=Δ)(h3:0<p0):TI Shun ic Own p0 0 Z H B t:=by
 refine⟨h.clean,h.seen,fun i x b hs=>?_,fun i x b c=>?_,fun j m=>by omega,fun i g f a _ hc=>h.over i g f a hc⟩
 ·obtain⟨op,d,e⟩:=touch_of b;have:=CY (h.seen op (Z4 d)) e (h2 _ hs).2;have:=(h2 _ hs).1;omega
 ·rcases h.known i x b c with k|k
  ·exact .inr (.inr (.inr k))
  ·exact .inl k
end
end
end Ph
namespace Ph
open Go Go.Conc
open Go.ConcM (muA msA MuAt ShAt Eff BookOK Bk2)
open Go.ConcR (stA smA WgAt mk)
section
structure PC where
 ca:Option Z9
 n:Nat
 m:Nat
 b:Bool
 c0:ZX
 cs:List ZX
 p0:Nat
 B0:Nat
 h0:Array Obj
 v0:Z9
 v1:Nat->θ
 v2:Nat->θ
 ev:Nat->Int
 S:Nat->Prop
 TT:Z7->Prop
 C:Nat
namespace PC
variable(K:PC)
def E:Z9:=⟨K.B0+1,0,ω⟩
def q:MP:=⟨K.ca,K.n,K.m,⟨K.B0,0,ω⟩,⟨K.B0+2,0,ω⟩,muA (K.B0+3),stA (K.B0+4)⟩
def wp(i c:Nat):WP:=K.q.wp ⟨c,0,ω⟩ ⟨i,0,ω⟩
def pk:PK:={B0:=K.B0,h0:=K.h0,Y:=fun b=>¬K.S b,TT:=K.TT,C:=K.C}
def Fin(j:Nat)(cs1:List ZX):Ω:={frame:=cs1.head!.finish (ξ ο (K.ev j)),callers:=cs1.tail,status:=.running,dying:=ω}
def Entry(j:Nat)(cs1:List ZX):Ω:={frame:=Frame.enter P0 213 #[ζ (Θ K.v0),.agg #[K.v1 j,K.v2 j]] .normal,callers:=cs1,status:=.running,dying:=ω}
def ic(l:Go.Loc):Prop:=∃a,l=.cell a/\(a.block=K.B0+3\/a.block=K.B0+4)
def Shun(l:Go.Loc):Prop:=gO.mT K.S l
def Own(X:Nat->Nat->Prop)(j:Nat)(l:Go.Loc):Prop:=(l=.cell ⟨K.B0+1,j,ω⟩/\j<K.n)\/(l.isMemory=Δ/\X j (blk l))
end PC
structure dX(K:PC):Prop where
 MT:∀j,j<K.n->∀cs1,cs1≠[] ->∃N,PX K.pk (K.Fin j cs1) N [] [] (K.Entry j cs1)
 ads:∀j,j<K.n->(K.v1 j).oneCell'=Δ/\(K.v2 j).oneCell'=Δ
 nB:K.n<1048576
 pos:0<K.p0
 size:K.h0.size=K.B0
 data:∀j,j<K.n->∃a,K.ca=Θ a/\a.block<K.B0/\¬K.S a.block/\a.spot=ω/\∃cs e f,K.h0[a.block]?=Θ (.cells cs e f)/\cs[a.off+j*2]?=Θ (K.v1 j)/\cs[a.off+j*2+1]?=Θ (K.v2 j)
 SB:∀b,K.S b->b<K.B0
 TT:K.TT 104/\K.TT 34/\K.TT 83/\K.TT 249/\K.TT 255/\K.TT 3/\K.TT 76
def kK:St->Nat
 |.w7=>6
 |.w8=>5
 |.pv=>4
 |.gl|.gs|.gm|.gn|.gx=>1
 |.fin=>0
 |_=>2
def cu:St->Bool
 |.u1|.uv|.ur|.ud|.u0|.uc _|.ux|.us|.uh|.ue|.gv|.gr|.gd|.ga|.gl|.gs|.gm|.gn|.gx|.fin=>Δ
 |_=>Ψ
def dC:St->Bool
 |.gd|.ga|.gl|.gs|.gm|.gn|.gx|.fin=>Δ
 |_=>Ψ
theorem C0(x:Lc):kK (hd x)=2/\cu (hd x)=Ψ/\dC (hd x)=Ψ/\hd x≠.w8/\hd x≠.pv/\hd x≠.fin:=by unfold hd;split<;>simp[kK,cu,dC]
theorem G0(o:Wd):kK (k8 o)=2/\cu (k8 o)=Δ/\dC (k8 o)=Ψ/\k8 o≠.w8/\k8 o≠.pv/\k8 o≠.fin:=by unfold k8;split<;>simp[kK,cu,dC]
def ez:St->Bool
 |.e4=>Δ
 |_=>Ψ
def il:St->Bool
 |.gr=>Δ
 |_=>Ψ
structure NxF(s s':St):Prop where
 lv:kK s'<=kK s
 GZ:cu s'=(cu s||ez s)
 rel:dC s'=(dC s||il s)
 no8:s'≠.w8/\s'≠.pv/\(s'=.fin↔s=.gx)
theorem G8{s s':St}{h h':Sh}(hx:Nx s h s' h'):NxF s s':=by
 cases s with
 |w7=>exact hx.elim
 |w8=>exact hx.elim
 |pv=>exact hx.elim
 |fin=>exact hx.elim
 |l0=>rcases hx with⟨_,rfl,_⟩|⟨_,rfl,_⟩<;>exact⟨by simp[kK],by simp[cu,ez],by simp[dC,il],by simp⟩
 |r0=>obtain⟨rfl,_⟩:=hx;obtain⟨q1,d,c,a,e,b⟩:=C0 ⟨0,h.mu,0,Ψ,Ψ⟩;exact⟨by rw[q1];simp[kK],by rw[d];simp[cu,ez],by rw[c];simp[dC,il],a,e,by simp[b]⟩
 |sq x=>
  obtain⟨_,rfl|⟨_,rfl⟩⟩:=hx
  ·exact⟨by simp[kK],by simp[cu,ez],by simp[dC,il],by simp⟩
  ·split<;>exact⟨by simp[kK],by simp[cu,ez],by simp[dC,il],by simp⟩
 |c1 x=>rcases hx with⟨_,rfl,_⟩|⟨_,rfl,_⟩<;>exact⟨by simp[kK],by simp[cu,ez],by simp[dC,il],by simp⟩
 |r1 x=>obtain⟨rfl,_⟩:=hx;obtain⟨q1,d,c,a,e,b⟩:=C0 {x with old:=h.mu};exact⟨by rw[q1];simp[kK],by rw[d];simp[cu,ez],by rw[c];simp[dC,il],a,e,by simp[b]⟩
 |r3 x=>obtain⟨rfl,_⟩:=hx;obtain⟨q1,d,c,a,e,b⟩:=C0 {x with old:=h.mu};exact⟨by rw[q1];simp[kK],by rw[d];simp[cu,ez],by rw[c];simp[dC,il],a,e,by simp[b]⟩
 |c2 x=>
  rcases hx with⟨_,_,rfl⟩|⟨_,rfl,_⟩
  ·split
   ·exact⟨by simp[kK],by simp[cu,ez],by simp[dC,il],by simp⟩
   ·split<;>exact⟨by simp[kK],by simp[cu,ez],by simp[dC,il],by simp⟩
  ·exact⟨by simp[kK],by simp[cu,ez],by simp[dC,il],by simp⟩
 |t1 x=>obtain⟨_,t,rfl⟩:=hx;exact⟨by simp[kK],by simp[cu,ez],by simp[dC,il],by simp⟩
 |s1 x=>obtain⟨_,_,rfl⟩:=hx;split<;>exact⟨by simp[kK],by simp[cu,ez],by simp[dC,il],by simp⟩
 |t2 x=>obtain⟨_,t,rfl⟩:=hx;exact⟨by simp[kK],by simp[cu,ez],by simp[dC,il],by simp⟩
 |r2 x=>
  obtain⟨_,rfl⟩:=hx;split
  ·exact⟨by simp[kK],by simp[cu,ez],by simp[dC,il],by simp⟩
  ·obtain⟨q1,d,c,a,e,b⟩:=C0 {x with old:=h.mu,it:=0,aw:=Δ};exact⟨by rw[q1];simp[kK],by rw[d];simp[cu,ez],by rw[c];simp[dC,il],a,e,by simp[b]⟩
 |u0=>
  obtain⟨_,rfl⟩:=hx;split
  ·exact⟨by simp[kK],by simp[cu,ez],by simp[dC,il],by simp⟩
  ·obtain⟨q1,d,c,a,e,b⟩:=G0 {h.mu with L:=Ψ};exact⟨by rw[q1];simp[kK],by rw[d];simp[cu,ez],by rw[c];simp[dC,il],a,e,by simp[b]⟩
 |uc o=>rcases hx with⟨_,rfl,_⟩|⟨_,rfl,_⟩<;>exact⟨by simp[kK],by simp[cu,ez],by simp[dC,il],by simp⟩
 |ux=>obtain⟨rfl,_⟩:=hx;obtain⟨q1,d,c,a,e,b⟩:=G0 h.mu;exact⟨by rw[q1];simp[kK],by rw[d];simp[cu,ez],by rw[c];simp[dC,il],a,e,by simp[b]⟩
 |ga=>obtain⟨_,rfl⟩:=hx;split<;>exact⟨by simp[kK],by simp[cu,ez],by simp[dC,il],by simp⟩
 |_=>obtain⟨rfl,_⟩:=hx;exact⟨by simp[kK],by simp[cu,ez],by simp[dC,il],by simp⟩
theorem adt{s s':St}{h h':Sh}(hx:Nx s h s' h')(hk:h'.k≠h.k):kK s'<kK s\/s=.gs:=by
 cases s with
 |ga=>obtain⟨_,rfl⟩:=hx;left;split<;>simp[kK]
 |gs=>exact .inr rfl
 |w7=>exact hx.elim
 |w8=>exact hx.elim
 |pv=>exact hx.elim
 |fin=>exact hx.elim
 |l0=>rcases hx with⟨_,_,rfl⟩|⟨_,_,rfl⟩<;>exact absurd rfl hk
 |c1 x=>rcases hx with⟨_,_,rfl⟩|⟨_,_,rfl⟩<;>exact absurd rfl hk
 |c2 x=>rcases hx with⟨_,rfl,_⟩|⟨_,_,rfl⟩<;>exact absurd rfl hk
 |uc x=>rcases hx with⟨_,_,rfl⟩|⟨_,_,rfl⟩<;>exact absurd rfl hk
 |s1 x=>obtain⟨_,rfl,_⟩:=hx;exact absurd rfl hk
 |sq x=>obtain⟨rfl,_⟩:=hx;exact absurd rfl hk
 |t1 x=>obtain⟨rfl,_⟩:=hx;exact absurd rfl hk
 |t2 x=>obtain⟨rfl,_⟩:=hx;exact absurd rfl hk
 |r2 x=>obtain⟨rfl,_⟩:=hx;exact absurd rfl hk
 |u0=>obtain⟨rfl,_⟩:=hx;exact absurd rfl hk
 |gm=>obtain⟨_,rfl⟩:=hx;exact absurd rfl hk
 |us=>obtain⟨_,rfl⟩:=hx;exact absurd rfl hk
 |uh=>obtain⟨_,rfl⟩:=hx;exact absurd rfl hk
 |a1 x=>obtain⟨_,rfl⟩:=hx;exact absurd rfl hk
 |_=>obtain⟨_,rfl⟩:=hx;exact absurd rfl hk
theorem MU{s s':St}{h h':Sh}(hx:Nx s h s' h')(hk:h.ms<h'.ms\/h.ws<h'.ws):s=.us\/s=.uh\/s=.gm:=by
 cases s with
 |us=>exact .inl rfl
 |uh=>exact .inr (.inl rfl)
 |gm=>exact .inr (.inr rfl)
 |w7=>exact hx.elim
 |w8=>exact hx.elim
 |pv=>exact hx.elim
 |fin=>exact hx.elim
 |ga=>obtain⟨rfl,_⟩:=hx;exact absurd hk (by simp)
 |gs=>obtain⟨_,rfl⟩:=hx;exact absurd hk (by simp)
 |l0=>rcases hx with⟨_,_,rfl⟩|⟨_,_,rfl⟩<;>exact absurd hk (by simp)
 |c1 x=>rcases hx with⟨_,_,rfl⟩|⟨_,_,rfl⟩<;>exact absurd hk (by simp)
 |c2 x=>rcases hx with⟨_,rfl,_⟩|⟨_,_,rfl⟩<;>exact absurd hk (by simp)
 |uc x=>rcases hx with⟨_,_,rfl⟩|⟨_,_,rfl⟩<;>exact absurd hk (by simp)
 |s1 x=>obtain⟨_,rfl,_⟩:=hx;exact absurd hk (by simp)
 |sq x=>obtain⟨rfl,_⟩:=hx;exact absurd hk (by simp)
 |t1 x=>obtain⟨rfl,_⟩:=hx;exact absurd hk (by simp)
 |t2 x=>obtain⟨rfl,_⟩:=hx;exact absurd hk (by simp)
 |r2 x=>obtain⟨rfl,_⟩:=hx;exact absurd hk (by simp)
 |u0=>obtain⟨rfl,_⟩:=hx;exact absurd hk (by simp)
 |a1 x=>obtain⟨_,rfl⟩:=hx;exact absurd hk (by simp)
 |_=>obtain⟨_,rfl⟩:=hx;exact absurd hk (by simp)
inductive WSit(K:PC)(j:Nat)(p:WP):St->(Nat->Prop) ->Nat->Nat->Nat->Ω->μ->Prop
 |go {s:St} {X:Nat->Prop} {k:Nat} {g g':Ω} {w:μ} (h:Path P0 Ψ k g g') (hs:fh p (K.ev j) K.E K.n j s g') (h8:s≠.w8) (hp:s≠.pv) (hf:s≠.fin):WSit K j p s X (kK s) k 1 g w
 |w8 {X:Nat->Prop} {k:Nat} {g g':Ω} {w:μ} (h:Path P0 Ψ k g g') (hs:bj (fW p LB [(7,ζ (Θ K.v0))] [aZ p]) [fB []] g'):WSit K j p .w8 X 5 k 1 g w
 |blk {x:Lc} {X:Nat->Prop} {g:Ω} {w:μ} (hs:bh p (K.ev j) (.s1 x) g):WSit K j p (.s1 x) X 2 0 0 {g with status:=.blocked} w
 |ap {X:Nat->Prop} {k:Nat} {g:Ω} {w:μ} (cs1:List ZX) (h:Path P0 Ψ k g (K.Entry j cs1)) (h1:bj (fW p QG [] [aZ p]) [fB []] (G cs1.head! cs1.tail)) (h2:cs1≠[]):WSit K j p .pv X 4 k 1 g w
 |pv {X:Nat->Prop} {k:Nat} {g:Ω} {w:μ} (cs1:List ZX) (Xl:List Nat) (O:List (Nat×Obj)) (hX:X=(·∈Xl)) (h:PX K.pk (K.Fin j cs1) k Xl O g) (ha:o7 K.pk Xl O w) (h1:bj (fW p QG [] [aZ p]) [fB []] (G cs1.head! cs1.tail)) (h2:cs1≠[]):WSit K j p .pv X 3 k 1 g w
 |fin {X:Nat->Prop} {g:Ω} {w:μ} (h:g.status=.finished):WSit K j p .fin X 0 0 1 g w
theorem js{p:WP}{e:Int}{s:St}{g:Ω}(h:bh p e s g):g.status=.running/\g.offers=ω:=by
 have a:∀{d:bG} {ds:List bG},bj d ds g->g.status=.running/\g.offers=ω:=fun h=>by obtain⟨F,rfl⟩:=h;exact⟨rfl,rfl⟩
 unfold bh at h;split at h
 all_goals first
  |exact a h
  |(obtain⟨_,h⟩:=h;exact a h)
  |exact a h.1
  |(obtain⟨_,_,h⟩:=h;exact a h)
  |(rcases h with h|h<;>exact a h)
  |exact h.elim
theorem rK{p:WP}{e:Int}{E:Z9}{n i:Nat}{s:St}{g:Ω}(h:fh p e E n i s g):g.status=.running/\g.offers=ω:=by
 have a:∀{d:bG} {ds:List bG},bj d ds g->g.status=.running/\g.offers=ω:=fun h=>by obtain⟨F,rfl⟩:=h;exact⟨rfl,rfl⟩
 unfold fh at h;split at h
 all_goals first
  |exact a h
  |(obtain⟨_,h⟩:=h;exact a h)
  |exact js h
theorem Path.running{P:Program}{main:Bool}{k:Nat}{g g':Ω}(h:Path P main k g g')(h':g'.status=.running):g.status=.running:=by
 cases k with
 |zero=>cases h;exact h'
 |succ k=>exact h.1
theorem WSit.status{K:PC}{j:Nat}{p:WP}{s:St}{X:Nat->Prop}{l k z:Nat}{g:Ω}{w:μ}(h:WSit K j p s X l k z g w):(g.status=.running/\z=1)\/(g.status=.blocked/\z=0/\g.offers=ω/\∃x,s=.s1 x)\/(g.status=.finished/\s=.fin/\z=1):=by
 cases h with
 |go h hs=>exact .inl ⟨h.running (rK hs).1,rfl⟩
 |w8 h hs=>obtain⟨F,rfl⟩:=hs;exact .inl ⟨h.running rfl,rfl⟩
 |blk hs=>exact .inr (.inl ⟨rfl,rfl,(js hs).2,_,rfl⟩)
 |ap a h=>exact .inl ⟨h.running rfl,rfl⟩
 |pv a b O c h=>exact .inl ⟨h.running,rfl⟩
 |fin h=>exact .inr (.inr ⟨h,rfl,rfl⟩)
end
section
theorem bM{w:μ}{b o:Nat}{cs:Array θ}{e:Z7}{f:Nat×Nat}(h:w.heap[b]?=Θ (.cells cs e f)):w.cell? ⟨b,o,ω⟩=cs[o]?:=by simp[World.cell?,h]
theorem g8{w:μ}{b o:Nat}{cs:Array θ}{e:Z7}(h:w.heap[b]?=Θ (.cells cs e)):w.frozen? ⟨b,o,ω⟩=Ψ:=by simp[World.frozen?,h]
theorem jP{w:μ}{b o:Nat}{cs:Array θ}{e:Z7}{f:Nat×Nat}{v:θ}(h:w.heap[b]?=Θ (.cells cs e f)):(w.setCell ⟨b,o,ω⟩ v).heap[b]?=Θ (.cells (cs.setIfInBounds o v) e f):=by simp[World.setCell,ZU,h]
theorem dh{w:μ}{a:Z9}{b:Nat}{v:θ}(h:b≠a.block):(w.setCell a v).heap[b]?=w.heap[b]?:=by simp only[World.setCell,ZU];rw[if_neg (Ne.symm h)]
theorem cE{w:μ}{a:Z9}{v:θ}:(w.setCell a v).heap.size=w.heap.size:=by simp[World.setCell]
theorem aP(b o n:Nat):(⟨b,o,ω⟩:Z9).add n=⟨b,o+n,ω⟩:=by
 unfold Addr.add;split
 ·rename_i h;rw[h,Nat.add_zero]
 ·rfl
structure db(K:PC)(val:Nat->Int)(h:Sh)(w:μ):Prop where
 size:K.B0+5<=w.heap.size
 low:∀b,b<K.B0->w.heap[b]?=K.h0[b]?
 gb:w.heap[K.B0]?=Θ (Z8 #[ζ (Θ K.v0)] 104)
 er:∃cs,w.heap[K.B0+1]?=Θ (.cells cs 34)/\cs.size=K.n/\∀i,i<K.n->cs[i]?=Θ (ξ ο (val i))
 eb:w.heap[K.B0+2]?=Θ (Z8 #[η (Θ K.E) K.n K.n] 83)
 sh:ShAt 249 255 (K.B0+3) (K.B0+4) w (dU h)
def uy(K:PC)(w:μ)(j i c:Nat):Prop:=w.heap[i]?=Θ (Z8 #[ξ ο j] 3)/\w.heap[c]?=Θ (Z8 #[K.v1 j,K.v2 j] 76)
structure uz(K:PC)(j:Nat)(dn:Bool)(s s':St)(X X':Nat->Prop)(h':Sh)(val:Nat->Int)(w w':μ):Prop where
 tape:w'.tape=w.tape
 output:w'.output=w.output
 os:ZY w.os w'.os
 size:w.heap.size<=w'.heap.size
 sh:ShAt 249 255 (K.B0+3) (K.B0+4) w' (dU h')
 er:∃cs,w'.heap[K.B0+1]?=Θ (.cells cs 34)/\cs.size=K.n/\∀i,i<K.n->cs[i]?=Θ (ξ ο (if(dn=Δ/\ez s=Δ)/\i=j then K.ev j else val i))
 others:∀x,x<w.heap.size->x≠K.B0+1->x≠K.B0+3->x≠K.B0+4->(s=.pv->¬X x) ->w'.heap[x]?=w.heap[x]?
 grow:∀x,X x->X' x
 fresh:∀x,X' x->¬X x->w.heap.size<=x/\x<w'.heap.size
 full:∀x,w.heap.size<=x->x<w'.heap.size->X' x
 keep:s≠.pv->X'=X
 rows:s=.pv->s'≠.pv->∀x,X' x->∃cs e f,w'.heap[x]?=Θ (.cells cs e f)/\K.TT e
 enum:s=.pv->s'≠.pv->∃f:Nat->Nat,∀x,X' x->∃i,i<K.C/\x=f i
structure Va(K:PC)(j i c:Nat)(dn:Bool)(s s':St)(X':Nat->Prop)(w':μ)(es:Array ZW):Prop where
 ok:∀e∈es,∀x,(Γ e).touch?=Θ x->x.loc.isMemory=Δ->(K.ic x.loc/\x.kind=.atomic)\/(x.kind≠.atomic/\(x.loc=.cell ⟨K.B0+1,j,ω⟩\/X' (blk x.loc)))\/
  (x.kind≠.atomic/\x.write=Ψ/\((blk x.loc<K.B0/\¬K.S (blk x.loc))\/blk x.loc=K.B0\/blk x.loc=K.B0+2\/blk x.loc=i\/blk x.loc=c))
 low:∀e∈es,(Γ e).low w'.heap.size
 dfb:deafBehind (deaf s) es=deaf s'
 norel:∀e∈es,e.loc≠.mark (.release (stA (K.B0+4)))
 rel:dn=Δ->s=.gr->es=#[mk (.releaseMerge (stA (K.B0+4)))]
 after:dC s=Δ->∀(i:Nat) (e:ZW),es[i]?=Θ e->(Γ e).touch?=ω\/((∃ad wr,e=⟨.cell ad,wr,Δ⟩)/\0<deafBehind (deaf s) (es.extract 0 i))
def WPg(dn:Bool)(s s':St)(h h':Sh)(l l' k k' z z':Nat)(g g':Ω):Prop:=
 (dn=Ψ/\s'=s/\h'=h/\l'=l/\((k'<k/\z'=z)\/(k'=k/\z'<z/\h.ms=0/\g'.status=.blocked)))\/
 (dn=Δ/\Nx s h s' h'/\l=kK s/\l'=kK s'/\z'=1/\(h.ms<h'.ms\/h.ws<h'.ws->mayWake P0 g=Δ/\g'.status=.running))\/
 (dn=Ψ/\h'=h/\l'<l/\z'=1/\((s=.w7/\s'=.w8)\/(s=.w8/\s'=.pv)\/(s=.pv/\(s'=.pv\/s'=.ld))))
section
variable{K:PC}{j i c:Nat}{s s':St}{X X':Nat->Prop}{l k z:Nat}{h h':Sh}{val:Nat->Int}{g:Ω}{w w':μ}{es:Array ZW}
theorem uz.refl{dn:Bool}(W:db K val h w)(he:dn=Δ->ez s=Ψ)(hp:s≠.pv\/s'=.pv):uz K j dn s s' X X h val w w:=⟨rfl,rfl,.refl _,Nat.le_refl _,W.sh,by obtain⟨cs,a,b,c⟩:=W.er;exact⟨cs,a,b,fun i hi=>by rw[if_neg fun h=>by have:=he h.1.1;rw[h.1.2]at this;cases this];exact c i hi⟩,fun _ _ _ _ _ _=>rfl,fun _ h=>h,fun x a b=>absurd a b,fun x a b=>absurd b (Nat.not_lt.2 a),fun _=>rfl,fun a b=>hp.elim (absurd a) (fun h=>absurd h b),fun a b=>hp.elim (absurd a) (fun h=>absurd h b)⟩
theorem qM{dn:Bool}(hd:deaf s=deaf s')(hr:dn=Δ->s≠.gr):Va K j i c dn s s' X' w' #[]:=⟨by simp,by simp,hd,by simp,fun a h=>absurd h (hr a),by simp⟩
theorem lR(hd:deaf s=0)(hd':deaf s'=0)(hr:s≠.gr)(hrel:dC s=Ψ)(hes:∀e∈es,∃a,e=⟨.cell a,Ψ,Ψ⟩/\(a.block=K.B0\/a.block=K.B0+2\/a.block=i\/a.block=c)/\a.block<w'.heap.size):Va K j i c Δ s s' X' w' es:=by
 refine⟨fun e b x d k=>?_,fun e b=>?_,?_,fun e b=>?_,fun _ h=>absurd h hr,fun h=>by rw[hrel]at h;cases h⟩
 ·obtain⟨a,rfl,g,_⟩:=hes e b;simp only[Γ,φ,κ]at d;subst d;exact .inr (.inr ⟨by simp,rfl,.inr g⟩)
 ·obtain⟨a,rfl,_,f⟩:=hes e b;exact f
 ·rw[hd,hd'];exact Z0 (fun e b=>by obtain⟨a,rfl,_⟩:=hes e b;simp) 0
 ·obtain⟨a,rfl,_⟩:=hes e b;simp
theorem G9(hb:BookOK (K.B0+3) (K.B0+4) (deaf s) (deaf s') es)(hr:s≠.gr)(hs:K.B0+5<=w'.heap.size):Va K j i c Δ s s' X' w' es:=by
 obtain⟨k,m,o⟩:=hb;refine⟨fun e b x l p=>?_,fun e b=>?_,m,fun e b=>?_,fun _ h=>absurd h hr,fun _ n e b=>?_⟩
 ·rcases k e b with h|h|⟨a,y,rfl,g⟩
  ·obtain⟨loc,wr,f⟩:=e;dsimp only at h;subst h;simp[Γ,φ]at l
  ·obtain⟨loc,wr,f⟩:=e;dsimp only at h;subst h;simp[Γ,φ]at l
  ·simp only[Γ,φ,κ]at l;subst l;exact .inl ⟨⟨a,rfl,g⟩,by simp⟩
 ·rcases k e b with h|h|⟨a,y,rfl,g⟩
  ·obtain⟨loc,wr,f⟩:=e;dsimp only at h;subst h;trivial
  ·obtain⟨loc,wr,f⟩:=e;dsimp only at h;subst h;trivial
  ·show a.block<_;omega
 ·rcases k e b with h|h|⟨a,y,rfl,g⟩
  ·rw[h];simp
  ·rw[h];simp
  ·simp
 ·rcases o n e b with h|h
  ·exact .inl h
  ·rcases k e (Z4 b)with d|d|⟨a,y,rfl,g⟩
   ·left;obtain⟨loc,wr,f⟩:=e;dsimp only at d;subst d;rfl
   ·left;obtain⟨loc,wr,f⟩:=e;dsimp only at d;subst d;rfl
   ·exact .inr ⟨⟨a,y,rfl⟩,h⟩
theorem rL{mm:Mark}(hm:(mm=.acquire (muA (K.B0+3))\/mm=.releaseMerge (muA (K.B0+3))\/mm=.releaseMerge (stA (K.B0+4))))(hd:deaf s=deaf s')(hr:s=.gr->mm=.releaseMerge (stA (K.B0+4)))(hs:K.B0+5<=w'.heap.size):Va K j i c Δ s s' X' w' #[mk mm]:=by
 have b:(Γ (mk mm)).touch?=ω:=by rcases hm with rfl|rfl|rfl<;>rfl
 refine⟨fun e a x d _=>?_,fun e a=>?_,?_,fun e a=>?_,fun _ h=>by rw[hr h],fun _ n e a=>.inl ?_⟩
 ·rw[Ξ.1 a,b]at d;cases d
 ·rw[Ξ.1 a];rcases hm with rfl|rfl|rfl
  ·show K.B0+3<_;omega
  ·show K.B0+3<_;omega
  ·show K.B0+4<_;omega
 ·rw[<-hd];exact Z0 (fun e a=>by rw[Ξ.1 a];rcases hm with rfl|rfl|rfl<;>simp[mk]) _
 ·rw[Ξ.1 a];rcases hm with rfl|rfl|rfl<;>simp[mk]
 ·rw[Ξ.1 (Z4 a)];exact b
theorem uz.lib(W:db K val h w)(he:ez s=Ψ)(hp:s≠.pv)(hsh:ShAt 249 255 (K.B0+3) (K.B0+4) w' (dU h'))(hE:Eff (K.B0+3) (K.B0+4) w w'):uz K j Δ s s' X X h' val w w':=
 ⟨hE.tape,hE.output,hE.os,Nat.le_of_eq hE.size.symm,hsh,by
   obtain⟨cs,b,a,c⟩:=W.er;exact⟨cs,by rw[hE.block _ (by omega) (by omega)];exact b,a,fun i hi=>by rw[if_neg fun h=>by rw[he]at h;cases h.1.2];exact c i hi⟩,
   fun x _ _ c d _=>hE.block x c d,fun _ h=>h,fun x b a=>absurd b a,fun x b a=>absurd a (by rw[hE.size];exact Nat.not_lt.2 b),fun _=>rfl,fun h=>absurd h hp,fun h=>absurd h hp⟩
theorem adu{p:WP}{e:Int}(hs:bh p e .us g):mayWake P0 g=Δ:=by obtain⟨a,F,rfl⟩:=hs;kernel_rfl
theorem adv{p:WP}{e:Int}(hs:bh p e .uh g):mayWake P0 g=Δ:=by obtain⟨a,F,rfl⟩:=hs;kernel_rfl
theorem adw{p:WP}{e:Int}(hs:bh p e .gm g):mayWake P0 g=Δ:=by obtain⟨F,rfl⟩:=hs;kernel_rfl
theorem En{p:WP}{e:Int}{E:Z9}{n i:Nat}(hs:bh p e s g):fh p e E n i s g/\s≠.w8/\s≠.pv/\s≠.fin:=by cases s<;>first|exact hs.elim|exact⟨hs,by simp,by simp,by simp⟩
theorem Bf{p:WP}{e:Int}{E:Z9}{n i:Nat}(hl:CK s=Δ)(hs:fh p e E n i s g):bh p e s g:=by cases s<;>first|exact hs|(cases hl)
def MV(K:PC)(j i c:Nat)(s:St)(X:Nat->Prop)(l k z:Nat)(h:Sh)(val:Nat->Int)(g:Ω)(w:μ):Prop:=∃dn s' X' l' k' z' h' g' w' es,stepG P0 Ψ g w=.go g' w' es/\WSit K j (K.wp i c) s' X' l' k' z' g' w'/\uz K j dn s s' X X' h' val w w'/\Va K j i c dn s s' X' w' es/\WPg dn s s' h h' l l' k k' z z' g g'/\(4<=l'->X'=X)
theorem vK(W:db K val h w){g1:Ω}(hst:∀w,stepG P0 Ψ g w=.go g1 w #[])(hsit:WSit K j (K.wp i c) s X l k z g1 w):MV K j i c s X l (k+1) z h val g w:=⟨Ψ,s,X,l,k,z,h,g1,w,#[],hst w,hsit,uz.refl W (fun h=>by cases h) (by by_cases hs:s=.pv<;>simp[hs]),qM rfl (by simp),.inl ⟨rfl,rfl,rfl,rfl,.inl ⟨by omega,rfl⟩⟩,fun _=>rfl⟩
theorem adx:(K.wp i c).lk=muA (K.B0+3):=rfl
theorem ady:(K.wp i c).wg=stA (K.B0+4):=rfl
theorem Vb{tM tW:Z7}(W:db K val h w)(hl:CK s=Δ)(hs:bh (K.wp i c) (K.ev j) s g)
 (hstep:(∃x,s=.s1 x/\h.ms=0/\stepG P0 Ψ g w=.go {g with status:=.blocked} w #[])\/Out 249 255 (K.B0+3) (K.B0+4) (K.wp i c) (K.ev j) s h g w):MV K j i c s X (kK s) 0 1 h val g w:=by
 rcases hstep with⟨x,rfl,o,e⟩|⟨k,y,A,t,m,l,e,r,u,d,B,v,F,a,eq⟩
 ·exact⟨Ψ,.s1 x,X,2,0,0,h,_,w,#[],e,.blk hs,uz.refl W (fun _=>rfl) (.inl (by simp)),qM rfl (by simp),.inl ⟨rfl,rfl,rfl,rfl,.inr ⟨rfl,by omega,o,rfl⟩⟩,fun _=>rfl⟩
 ·obtain⟨q1,D,z,C⟩:=En (E:=K.E) (n:=K.n) (i:=j) eq;have p:ez s=Ψ:=by cases s<;>first|rfl|cases hl
  have q:s≠.pv:=by rintro rfl;cases hl
  have b:K.B0+5<=t.heap.size:=by rw[u.size];exact W.size
  refine⟨Δ,k,X,kK k,B,1,y,A,t,m,e,.go a q1 D z C,uz.lib W p q r u,?_,.inr (.inl ⟨rfl,l,rfl,rfl,rfl,fun hw=>?_⟩),fun _=>rfl⟩
  ·cases s with
   |la f=>have:k=.e1:=l.1;subst this;have:m=_:=d;rw[this];exact rL (.inl rfl) rfl (by simp) b
   |ur=>have:k=.ud:=l.1;subst this;have:m=_:=d;rw[this];exact rL (.inr (.inl rfl)) rfl (by simp) b
   |gr=>have:k=.gd:=l.1;subst this;have:m=_:=d;rw[this];exact rL (.inr (.inr rfl)) rfl (fun _=>rfl) b
   |_=>exact G9 d (by simp) b
  ·refine⟨?_,?_⟩
   ·rcases MU l hw with rfl|rfl|rfl
    ·exact adu hs
    ·exact adv hs
    ·exact adw hs
   ·exact a.running (js eq).1
theorem uz.MT(A:dX K)(W:db K val h w)(hX:∀x,X x->K.B0+5<=x)(hlt:∀x,X' x->x<w'.heap.size)(hp:yy K.B0 (fun b=>¬K.S b) X X' w w' es)(hrows:s'≠.pv->∀x,X' x->∃cs e f,w'.heap[x]?=Θ (.cells cs e f)/\K.TT e)(adz:s'≠.pv->∃f:Nat->Nat,∀x,X' x->∃i,i<K.C/\x=f i):uz K j Ψ .pv s' X X' h val w w':=by
 have hs:=W.size;have d:∀x,x<K.B0+5->¬X x:=fun x k g=>by have:=hX x g;omega
 refine⟨hp.tape,hp.output,by rw[hp.os];exact .refl _,hp.size,W.sh.of_block (hp.others _ (by omega) (d _ (by omega))) (hp.others _ (by omega) (d _ (by omega))),?_,fun x k _ _ _ m=>hp.others x k (m rfl),hp.grow,fun x a c=>⟨hp.fresh x a c,hlt x a⟩,hp.full,fun h=>absurd rfl h,fun _=>hrows,fun _=>adz⟩;obtain⟨cs,a,c,l⟩:=W.er;exact⟨cs,by rw[hp.others _ (by omega) (d _ (by omega))];exact a,c,fun i hi=>by rw[if_neg fun h=>by cases h.1.1];exact l i hi⟩
theorem yG(A:dX K)(W:db K val h w)(hlt:∀x,X' x->x<w'.heap.size)(hp:yy K.B0 (fun b=>¬K.S b) X X' w w' es)(hd:deaf s'=0):Va K j i c Ψ .pv s' X' w' es:=by
 have hs:=W.size;have p:=hp.size;refine⟨fun e k x l q=>?_,fun e k=>?_,?_,fun e k=>?_,by simp,by simp[dC]⟩
 ·have d:=hp.Ft e k;obtain⟨loc,wr,n⟩:=e;cases loc with
  |cell a=>
   obtain⟨f,g⟩:=d;dsimp only at f g;subst g;simp only[Γ,φ,κ]at l;subst l;rcases f with f|⟨f,g,o⟩
   ·exact .inr (.inl ⟨by simp,.inr f⟩)
   ·exact .inr (.inr ⟨by simp,g,.inl ⟨f,o⟩⟩)
  |obj r=>obtain⟨f,g⟩:=d;dsimp only at f g;subst g;simp only[Γ,φ,κ]at l;subst l;exact .inr (.inl ⟨by simp,.inr f⟩)
  |mark m=>cases m<;>first|exact d.elim|(simp[Γ,φ]at l)
  |_=>exact d.elim
 ·have d:=hp.Ft e k;obtain⟨loc,wr,n⟩:=e;cases loc with
  |cell a=>
   rcases d.1 with f|⟨f,_⟩
   ·exact hlt _ f
   ·show a.block<_;have f:a.block<K.B0:=f;omega
  |obj r=>have f:X' r:=d.1;have g:n=Ψ:=d.2;subst g;cases wr<;>exact hlt _ f
  |mark m=>cases m<;>first|exact d.elim|trivial
  |_=>exact d.elim
 ·rw[hd];exact Z0 (fun e k=>by
   have d:=hp.Ft e k;obtain⟨loc,wr,n⟩:=e;cases loc with
   |mark m=>cases m<;>first|exact d.elim|simp
   |_=>first|simp|exact d.elim) 0
 ·have d:=hp.Ft e k;obtain⟨loc,wr,n⟩:=e;cases loc with
  |mark m=>cases m<;>first|exact d.elim|simp
  |_=>first|simp|exact d.elim
theorem C5(A:dX K)(hj:j<K.n)(W:db K val h w)(hX:∀x,X x->K.B0+5<=x){cs1:List ZX}{Xl:List Nat}{O:List (Nat×Obj)}{N:Nat}(hl:l=4\/(l=3/\N=k))(hXl:X=(·∈Xl))(hp:PX K.pk (K.Fin j cs1) N Xl O g)(ha:o7 K.pk Xl O w)
 (h1:bj (fW (K.wp i c) QG [] [aZ (K.wp i c)]) [fB []] (G cs1.head! cs1.tail)) (h2:cs1≠[]):MV K j i c .pv X l k 1 h val g w:=by
 subst hXl;cases N with
 |zero=>exact hp.elim
 |succ N=>
  rcases hp.2 w ha with⟨y,q,t,f,b,d⟩|⟨C,r,B,q,t,f,b,d,s⟩
  ·obtain⟨v,rest,rfl⟩:=List.exists_cons_of_ne_nil h2;have a:∀x,x∈Xl->x<q.heap.size:=fun x o=>(d.own x o).2.1
   obtain⟨D,z,F,m,eq⟩:=acj (p:=K.wp i c) (e:=K.ev j) (E:=K.E) (n:=K.n) (i:=j) (W:=v) (cs:=rest) (by exact h1);refine⟨Ψ,.ld,(·∈Xl),2,D,1,h,_,q,t,f,.go m eq (by simp) (by simp) (by simp),uz.MT A W hX a b (fun _ x o=>(d.own x o).2.2) (fun _=>⟨fun i=>Xl.getD i 0,fun x o=>?_⟩),yG A W a b rfl,.inr (.inr ⟨rfl,rfl,?_,rfl,.inr (.inr ⟨rfl,.inr rfl⟩)⟩),fun h=>absurd h (by omega)⟩
   ·obtain⟨n,u,e⟩:=List.mem_iff_getElem.1 o;refine⟨n,Nat.lt_of_lt_of_le u y,?_⟩;show x=Xl.getD n 0;rw[List.getD_eq_getElem?_getD,List.getElem?_eq_getElem u];exact e.symm
   ·rcases hl with rfl|⟨rfl,rfl⟩<;>omega
  ·have a:∀x,x∈r->x<q.heap.size:=fun x o=>(d.own x o).2.1
   refine⟨Ψ,.pv,(·∈r),3,N,1,h,C,q,t,f,.pv cs1 r B rfl s d h1 h2,uz.MT A W hX a b (by simp) (by simp),yG A W a b rfl,?_,fun h=>absurd h (by omega)⟩;rcases hl with rfl|⟨rfl,rfl⟩
   ·exact .inr (.inr ⟨rfl,rfl,by omega,rfl,.inr (.inr ⟨rfl,.inl rfl⟩)⟩)
   ·exact .inl ⟨rfl,rfl,rfl,rfl,.inl ⟨by omega,rfl⟩⟩
theorem Eo(A:dX K)(hj:j<K.n)(W:db K val h w)(hX:∀x,X x->K.B0+5<=x)(hbox:uy K w j i c)(hi:i<w.heap.size)(hc:c<w.heap.size)(hX0:4<=l->X=fun _=>False)(hsit:WSit K j (K.wp i c) s X l k z g w)(hr:g.status=.running)
 {RO RA RT RQ RH RU RV RC RG RL RM B y:Nat} {wa:Bool} (hI:ff h s RO RA RT RQ RH RU RV RC) (hL:aaA h s) (hB:rG B s) (hBB:B<1048576) (hm:h.mu.c<=B) (hms:h.ms<=1) (hW:mW wa y h (RG+nG s) (RL+nL s) (RM+nM s)) (hk:h.k<1073741824) (hws:h.ws<1000):
 MV K j i c s X l k z h val g w:=by
 have hsz:=W.size;cases hsit with
 |@go _ _ k _ R _ m hs Z F V=>
  cases k with
  |succ k=>obtain⟨_,Y,d,t⟩:=m;exact vK W d (.go t hs Z F V)
  |zero=>
   have:R=g:=m;subst this;by_cases J:CK s=Δ
   ·have G:=Bf J hs;exact Vb (tM:=249) (tW:=255) W J G (yj (B:=B) adx ady (by omega) hI hL hB hBB hm hms hW hk hws W.sh J G)
   ·cases s with
    |w7=>
     obtain⟨d,r,q,H,b,eq⟩:=acd (p:=K.wp i c) (e:=K.ev j) (E:=K.E) (n:=K.n) (i:=j) (g0:=K.v0) (w:=w) (by show w.cell? ⟨K.B0,0,ω⟩=_;rw[bM W.gb];rfl) hs
     exact⟨Ψ,.w8,X,5,r,1,h,_,w,_,d,.w8 b eq,uz.refl W (fun _=>rfl) (.inl (by simp)),⟨(lR (K:=K) (j:=j) (i:=i) (c:=c) (s:=.w7) (s':=.w8) (X':=X) (w':=w) rfl rfl (by simp) rfl (fun e f=>⟨⟨K.B0,0,ω⟩,Ξ.1 f,.inl rfl,by show K.B0<_;omega⟩)).ok,by
      intro e f;rw[Ξ.1 f];show K.B0<_;omega,rfl,by
      intro e f;rw[Ξ.1 f];simp,by simp,by simp[dC]⟩,.inr (.inr ⟨rfl,rfl,by simp[kK],rfl,.inl ⟨rfl,rfl⟩⟩),fun _=>rfl⟩
    |w8=>exact absurd rfl Z
    |pv=>exact absurd rfl F
    |fin=>exact absurd rfl V
    |e1=>
     obtain⟨d,r,q,H,b,eq⟩:=acf (p:=K.wp i c) (e:=K.ev j) (E:=K.E) (n:=K.n) (i:=j) (w:=w) (by show w.cell? ⟨K.B0+2,0,ω⟩=_;rw[bM W.eb];rfl) hs
     exact⟨Δ,.e2,X,2,r,1,h,_,w,_,d,.go b eq (by simp) (by simp) (by simp),uz.refl W (fun _=>rfl) (.inl (by simp)),
      lR rfl rfl (by simp) rfl (fun e f=>⟨⟨K.B0+2,0,ω⟩,Ξ.1 f,.inr (.inl rfl),by show K.B0+2<_;omega⟩),.inr (.inl ⟨rfl,⟨rfl,rfl⟩,rfl,rfl,rfl,by simp⟩),fun _=>rfl⟩
    |e2=>
     obtain⟨d,r,q,H,b,eq⟩:=acg (p:=K.wp i c) (e:=K.ev j) (E:=K.E) (n:=K.n) (i:=j) (w:=w) (by show w.cell? ⟨i,0,ω⟩=_;rw[bM hbox.1];rfl) hs
     exact⟨Δ,.e3,X,2,r,1,h,_,w,_,d,.go b eq (by simp) (by simp) (by simp),uz.refl W (fun _=>rfl) (.inl (by simp)),
      lR rfl rfl (by simp) rfl (fun e f=>⟨⟨i,0,ω⟩,Ξ.1 f,.inr (.inr (.inl rfl)),hi⟩),.inr (.inl ⟨rfl,⟨rfl,rfl⟩,rfl,rfl,rfl,by simp⟩),fun _=>rfl⟩
    |e3=>
     obtain⟨d,r,q,H,b,eq⟩:=ach (p:=K.wp i c) (e:=K.ev j) (E:=K.E) (n:=K.n) (i:=j) (w:=w) hj hs;exact⟨Δ,.e4,X,2,r,1,h,_,w,_,d,.go b eq (by simp) (by simp) (by simp),uz.refl W (fun _=>rfl) (.inl (by simp)),
      qM rfl (by simp),.inr (.inl ⟨rfl,⟨rfl,rfl⟩,rfl,rfl,rfl,by simp⟩),fun _=>rfl⟩
    |e4=>
     obtain⟨cs,q1,C,I⟩:=W.er;have U:(K.E.add j).add 0=⟨K.B0+1,j,ω⟩:=by show((⟨K.B0+1,0,ω⟩:Z9).add j).add 0=_;simp only[aP,Nat.zero_add,Nat.add_zero]
     obtain⟨d,r,q,H,b,eq⟩:=aci (p:=K.wp i c) (e:=K.ev j) (E:=K.E) (n:=K.n) (i:=j) (w:=w) (v:=ξ ο (val j)) (by rw[U,bM q1];exact I j hj) (by rw[U];exact g8 q1) hs;rw[U]at d;refine⟨Δ,.u1,X,2,r,1,h,_,_,_,d,.go b eq (by simp) (by simp) (by simp),⟨rfl,rfl,.refl _,by rw[cE];exact Nat.le_refl _,W.sh.of_block (dh (by simp)) (dh (by simp)),⟨_,jP q1,by simpa using C,fun i' Q=>?_⟩,fun x _ m _ _ _=>dh m,fun _ h=>h,fun x m L=>absurd m L,fun x m L=>absurd L (by rw[cE];omega),fun _=>rfl,(fun h=>by cases h),fun h=>by cases h⟩,⟨fun e f x S hm=>?_,fun e f=>?_,rfl,fun e f=>?_,by simp,by simp[dC]⟩,.inr (.inl ⟨rfl,⟨rfl,rfl⟩,rfl,rfl,rfl,by simp⟩),fun _=>rfl⟩
     ·rw[Array.getElem?_setIfInBounds];by_cases D:j=i'
      ·subst D;rw[if_pos rfl,if_pos (by omega),if_pos ⟨⟨rfl,rfl⟩,rfl⟩]
      ·rw[if_neg D,if_neg (fun h=>D h.2.symm)];exact I i' Q
     ·rw[Ξ.1 f]at S;simp only[Γ,φ,κ]at S;subst S;exact .inr (.inl ⟨by simp,.inl rfl⟩)
     ·rw[Ξ.1 f,cE];show K.B0+1<_;omega
     ·rw[Ξ.1 f];simp
    |gx=>have d:=QN (p:=K.wp i c) (e:=K.ev j) (w:=w) hs;exact⟨Δ,.fin,X,0,0,1,h,_,w,#[],d,.fin rfl,uz.refl W (fun _=>rfl) (.inl (by simp)),qM rfl (by simp),.inr (.inl ⟨rfl,⟨rfl,rfl⟩,rfl,rfl,rfl,by simp⟩),fun _=>rfl⟩
    |_=>exact absurd rfl J
 |@w8 _ k _ R _ m hs=>
  cases k with
  |succ k=>obtain⟨_,Y,d,t⟩:=m;exact vK W d (.w8 t hs)
  |zero=>
   have:R=g:=m;subst this;obtain⟨d,r,q,H,b,o,q1,C,I⟩:=ace (p:=K.wp i c) (g0:=K.v0) (w:=w) (v1:=K.v1 j) (v2:=K.v2 j) (by
    show w.cell? ((⟨c,0,ω⟩:Z9).add 0)=_;rw[aP,bM hbox.2];rfl) (by
    show w.cell? ((⟨c,0,ω⟩:Z9).add 1)=_;rw[aP,bM hbox.2];rfl) hs
   subst I;have T:∀e∈(#[⟨.cell ((K.wp i c).cb.add 0),Ψ,Ψ⟩,⟨.cell ((K.wp i c).cb.add 1),Ψ,Ψ⟩]:Array ZW),∃a,e=(⟨.cell a,Ψ,Ψ⟩:ZW)/\(a.block=K.B0\/a.block=K.B0+2\/a.block=i\/a.block=c)/\a.block<w.heap.size:=by
    intro e f;simp only[List.mem_toArray,List.mem_cons,List.not_mem_nil,or_false]at f;rcases f with rfl|rfl
    ·exact⟨(⟨c,0,ω⟩:Z9).add 0,rfl,.inr (.inr (.inr (by rw[aP]))),by rw[aP];exact hc⟩
    ·exact⟨(⟨c,0,ω⟩:Z9).add 1,rfl,.inr (.inr (.inr (by rw[aP]))),by rw[aP];exact hc⟩
   have u:=lR (K:=K) (j:=j) (i:=i) (c:=c) (s:=.w8) (s':=.pv) (X':=X) (w':=w) rfl rfl (by simp) rfl T;exact⟨Ψ,.pv,X,4,r,1,h,_,w,_,d,.ap o b q1 C,uz.refl W (fun _=>rfl) (.inl (by simp)),⟨u.ok,u.low,u.dfb,u.norel,by simp,by simp[dC]⟩,.inr (.inr ⟨rfl,rfl,by omega,rfl,.inr (.inl ⟨rfl,rfl⟩)⟩),fun _=>rfl⟩
 |blk hs=>cases hr
 |@ap _ k _ _ o m q1 C=>
  cases k with
  |succ k=>obtain⟨_,Y,d,t⟩:=m;exact vK W d (.ap o t q1 C)
  |zero=>have:K.Entry j o=g:=m;subst this;have M:=hX0 (Nat.le_refl _);subst M;obtain⟨N,F⟩:=A.MT j hj o C;exact C5 A hj W hX (.inl rfl) (by funext x;simp) F ⟨W.low,by show K.B0<=_;omega,by simp,by simp⟩ q1 C
 |@pv _ k _ _ o Xl O P F ha q1 C=>exact C5 A hj W hX (.inr ⟨rfl,rfl⟩) P F ha q1 C
 |fin hs=>rw[hs]at hr;cases hr
end
end
end Ph
namespace Ph
open Go Go.Conc
section
theorem Vd:ei P0 50 Δ:=fun w a=>by kernel_rfl
theorem Ve:ei P0 23 Ψ:=fun w a=>by kernel_rfl
theorem adA:ei P0 22 Ψ:=fun w a=>by kernel_rfl
theorem Ha:dt P0 50 2:=fun w a=>by kernel_rfl
theorem alj:P0.underlying 23=Θ (.slice 50):=by kernel_rfl
theorem z34:gp P0 34 (ξ ο 0):=fun w a=>by kernel_rfl
theorem z50:gp P0 50 (.agg #[ξ ο 0,ξ ο 0]):=fun w a=>by kernel_rfl
theorem li:bR P0 213 Ψ:=by unfold bR;kernel_rfl
theorem yH:bR P0 167 Ψ:=by unfold bR;kernel_rfl
theorem yI:bR P0 169 Ψ:=by unfold bR;kernel_rfl
theorem adB:bR P0 248 Ψ:=by unfold bR;kernel_rfl
def Fu(nN nO:Nat)(k N:Int):Prop:=(k=0/\-99<=N/\N<=99)\/(k=2/\N=0)\/(k=3/\0<=N/\N<nN)\/(k=4/\0<=N/\N<nO)
def OkK(k:Int)(n:Nat):Prop:=(k=0/\n<=4)\/(k=1/\n=1)\/(k=2/\n=2)
structure alk(K:PK)(v0:Z9)(nN nO:Nat)(v1 v2:θ)(kd:Int)(ca:Option Z9)(n m:Nat)(vk vn:Nat->Int):Prop where
 e1:v1=ξ ο kd
 e2:v2=.slice ca n m
 ok:OkK kd n
 new:v0.spot=ω/\v0.block<K.B0/\K.Y v0.block/\∃cs e f oa om pa pm,K.h0[v0.block]?=Θ (.cells cs e f)/\cs[v0.off]?=Θ (.slice oa nN om)/\cs[v0.off+1]?=Θ (.slice pa nO pm)
 eT:∀i,i<n->Fu nN nO (vk i) (vn i)/\∃a,ca=Θ a/\a.spot=ω/\a.block<K.B0/\K.Y a.block/\∃cs e f,K.h0[a.block]?=Θ (.cells cs e f)/\cs[a.off+i*2]?=Θ (ξ ο (vk i))/\cs[a.off+i*2+1]?=Θ (ξ ο (vn i))
section
variable{K:PK}{gE g:Ω}{N:Nat}{X:List Nat}{O:List (Nat×Obj)}{w:μ}
theorem PX.o8{n x o:Nat}{cs:Array θ}{e t:Z7}{v:θ}{S:Ω->Prop}(hr:g.status=.running)(hx:(x,.cells cs e)∈O)(hh:au g=Θ (bI t (ζ (Θ ⟨x,o,ω⟩))))(ha:ei P0 t Ψ)(hv:cs[o]?=Θ v)(hq:bR P0 g.frame.fn Ψ)
 (hp:ak P0 Ψ n S (fin v g)) (h:∀g',S g'->PX K gE N X O g'):PX K gE (N+n+1) X O g:=by
 by_cases a:∃w,o7 K X O w
 ·have b:x∈X:=by obtain⟨w,hw⟩:=a;exact(hw.known _ hx).1
  refine PX.look (es:=#[⟨.cell ⟨x,o,ω⟩,Ψ,Ψ⟩]) hr (fun w hw=>?_) (fun ev c=>⟨⟨x,o,ω⟩,Ξ.1 c,.inl b⟩) hp h;exact du (q:=Ψ) hh ha (by rw[bM (hw.known _ hx).2];exact hv) hq
 ·exact⟨hr,fun w hw=>absurd ⟨w,hw⟩ a⟩
theorem PX.adC{n x:Nat}{e t:Z7}{v v':θ}{S:Ω->Prop}(hr:g.status=.running)(hx:(x,Z8 #[v,v'] e)∈O)(hh:au g=Θ (bI t (ζ (Θ ⟨x,0,ω⟩))))(ha:ei P0 t Δ)(hs:dt P0 t 2)(hq:bR P0 g.frame.fn Ψ)
 (hp:ak P0 Ψ n S (fin (.agg #[v,v']) g)) (h:∀g',S g'->PX K gE N X O g'):PX K gE (N+n+1) X O g:=by
 by_cases b:∃w,o7 K X O w
 ·have a:x∈X:=by obtain⟨w,hw⟩:=b;exact(hw.known _ hx).1
  refine PX.look (es:=#[⟨.cell ((⟨x,0,ω⟩:Z9).add 0),Ψ,Ψ⟩,⟨.cell ((⟨x,0,ω⟩:Z9).add 1),Ψ,Ψ⟩]) hr (fun w hw=>?_) (fun ev c=>?_) hp h
  ·exact jp hh ha hs (by rw[aP,bM (hw.known _ hx).2];rfl) (by rw[aP,bM (hw.known _ hx).2];rfl) hq
  ·simp only[aP,List.mem_toArray,List.mem_cons,List.not_mem_nil,or_false]at c;rcases c with rfl|rfl
   ·exact⟨⟨x,0+0,ω⟩,rfl,.inl a⟩
   ·exact⟨⟨x,0+1,ω⟩,rfl,.inl a⟩
 ·exact⟨hr,fun w hw=>absurd ⟨w,hw⟩ b⟩
theorem PX.adD{n b o:Nat}{cs:Array θ}{e t:Z7}{f:Nat×Nat}{v:θ}{S:Ω->Prop}(hr:g.status=.running)(hb:b<K.B0)(hY:K.Y b)(h0:K.h0[b]?=Θ (.cells cs e f))(hh:au g=Θ (bI t (ζ (Θ ⟨b,o,ω⟩))))(ha:ei P0 t Ψ)(hv:cs[o]?=Θ v)(hq:bR P0 g.frame.fn Ψ)
 (hp:ak P0 Ψ n S (fin v g)) (h:∀g',S g'->PX K gE N X O g'):PX K gE (N+n+1) X O g:=by
 refine PX.look (es:=#[⟨.cell ⟨b,o,ω⟩,Ψ,Ψ⟩]) hr (fun w hw=>?_) (fun ev a=>⟨⟨b,o,ω⟩,Ξ.1 a,.inr ⟨hb,hY⟩⟩) hp h;exact du (q:=Ψ) hh ha (by rw[bM (by rw[hw.old b hb];exact h0)];exact hv) hq
theorem PX.alm{n b o:Nat}{cs:Array θ}{e t:Z7}{f:Nat×Nat}{v v':θ}{S:Ω->Prop}(hr:g.status=.running)(hb:b<K.B0)(hY:K.Y b)(h0:K.h0[b]?=Θ (.cells cs e f))(hh:au g=Θ (bI t (ζ (Θ ⟨b,o,ω⟩))))(ha:ei P0 t Δ)(hs:dt P0 t 2)(hv:cs[o]?=Θ v)(hv':cs[o+1]?=Θ v')(hq:bR P0 g.frame.fn Ψ)
 (hp:ak P0 Ψ n S (fin (.agg #[v,v']) g)) (h:∀g',S g'->PX K gE N X O g'):PX K gE (N+n+1) X O g:=by
 refine PX.look (es:=#[⟨.cell ((⟨b,o,ω⟩:Z9).add 0),Ψ,Ψ⟩,⟨.cell ((⟨b,o,ω⟩:Z9).add 1),Ψ,Ψ⟩]) hr (fun w hw=>?_) (fun ev a=>?_) hp h
 ·exact jp hh ha hs (by rw[aP,bM (by rw[hw.old b hb];exact h0)];exact hv) (by rw[aP,bM (by rw[hw.old b hb];exact h0)];exact hv') hq
 ·simp only[aP,List.mem_toArray,List.mem_cons,List.not_mem_nil,or_false]at a;rcases a with rfl|rfl
  ·exact⟨⟨b,o+0,ω⟩,rfl,.inr ⟨hb,hY⟩⟩
  ·exact⟨⟨b,o+1,ω⟩,rfl,.inr ⟨hb,hY⟩⟩
theorem PX.box{n:Nat}{t:Z7}{u:θ}{S:Nat->Ω->Prop}(hr:g.status=.running)(hT:K.TT t)(hh:au g=Θ (mb t u))(hp:∀x,ak P0 Ψ n (S x) (fin (pz x) g))(h:∀x g',K.B0<=x->S x g'->PX K gE N (x::X) ((x,.cells u.cells t)::O) g'):PX K gE (N+n+1) X O g:=PX.new hr hT (fun x=>fin (pz x) g) (fun w hw=>rI hh) hp h
theorem PX.var{n:Nat}{t:Z7}{z:θ}{S:Nat->Ω->Prop}(hr:g.status=.running)(hT:K.TT t)(hh:au g=Θ (i9 t))(hz:gp P0 t z)(hp:∀x,ak P0 Ψ n (S x) (fin (pz x) g))(h:∀x g',K.B0<=x->S x g'->PX K gE N (x::X) ((x,.cells z.cells t)::O) g'):PX K gE (N+n+1) X O g:=PX.new hr hT (fun x=>fin (pz x) g) (fun w hw=>gq hh hz) hp h
theorem PX.adE{n x:Nat}{e t:Z7}{v u:θ}{O':List (Nat×Obj)}{S:Ω->Prop}(hr:g.status=.running)(hx:(x,Z8 #[v] e)∈O)(hO:∀p∈O',p=(x,Z8 #[u] e)\/(p∈O/\p.1≠x))(hh:au g=Θ (gh t (ζ (Θ ⟨x,0,ω⟩)) u))(hs:dt P0 t 1)(hu:u.cells=#[u])(hu1:u.oneCell'=Δ)(hq:bR P0 g.frame.fn Ψ)
 (hp:ak P0 Ψ n S (fin undef g)) (h:∀g',S g'->PX K gE N X O' g'):PX K gE (N+n+1) X O g:=by
 refine PX.qu (cs':=#[u]) (es:=#[⟨.cell ⟨x,0,ω⟩,Δ,Ψ⟩]) hr hx hO (fun w hw a=>?_) (fun ev c=>⟨⟨x,0,ω⟩,Δ,Ξ.1 c,rfl⟩) hp h;have b:=iS (P:=P0) (main:=Ψ) (w:=w) hh hs hu hu1 (v:=v) (by rw[aP,bM a];rfl) (by rw[aP];exact g8 a) hq;rw[aP]at b;exact⟨_,b,rfl,rfl,rfl,rfl,cE,by rw[jP a];rfl,fun y d=>dh (by exact d)⟩
theorem PX.aln{n x:Nat}{e t:Z7}{v v' u u':θ}{O':List (Nat×Obj)}{S:Ω->Prop}(hr:g.status=.running)(hx:(x,Z8 #[v,v'] e)∈O)(hO:∀p∈O',p=(x,Z8 #[u,u'] e)\/(p∈O/\p.1≠x))(hh:au g=Θ (gh t (ζ (Θ ⟨x,0,ω⟩)) (.agg #[u,u'])))(hs:dt P0 t 2)(hu:u.oneCell'=Δ)(hu1:u'.oneCell'=Δ)(hq:bR P0 g.frame.fn Ψ)
 (hp:ak P0 Ψ n S (fin undef g)) (h:∀g',S g'->PX K gE N X O' g'):PX K gE (N+n+1) X O g:=by
 refine PX.qu (cs':=#[u,u']) (es:=#[⟨.cell ⟨x,0,ω⟩,Δ,Ψ⟩,⟨.cell ⟨x,1,ω⟩,Δ,Ψ⟩]) hr hx hO (fun w hw a=>?_) (fun ev c=>?_) hp h
 ·have e1:=jP (o:=0) (v:=u) a;have e2:=jP (o:=1) (v:=u') e1;have b:=ut (P:=P0) (main:=Ψ) (w:=w) hh hs hu hu1 (v:=v) (v2:=v') (by rw[aP,bM a];rfl) (by rw[aP];exact g8 a) (by rw[aP,aP,bM e1];rfl) (by rw[aP,aP];exact g8 e1) hq;rw[aP,aP]at b;exact⟨_,b,rfl,rfl,rfl,rfl,by rw[cE,cE],by rw[e2];rfl,fun y d=>by rw[dh (by exact d),dh (by exact d)]⟩
 ·simp only[List.mem_toArray,List.mem_cons,List.not_mem_nil,or_false]at c;rcases c with rfl|rfl
  ·exact⟨⟨x,0,ω⟩,Δ,rfl,rfl⟩
  ·exact⟨⟨x,1,ω⟩,Δ,rfl,rfl⟩
end
end
end Ph
namespace Ph
open Go Go.Conc
open Go.ConcM (muA msA MuAt ShAt Eff BookOK Bk2)
open Go.ConcR (stA smA WgAt mk)
section
inductive cZ where
 |s7|KQ|k9|vL|iJ|iK
 |ad (s:Ma)
 |mq (s:Mq)
section
variable(K:PC)(r i c:Nat)
def lj(s:cZ)(g:Ω):Prop:=
 match s with
 |.s7=>aQ (b6 K.b K.q GD [iv 25 r,iv 23 r]) [] (K.c0::K.cs) g
 |.KQ=>∃a,K.ca=Θ a/\aQ (b6 K.b K.q GE [pv 26 (a.add (r*2)),iv 25 r,iv 23 r]) [] (K.c0::K.cs) g
 |.k9=>aQ (b6 K.b K.q tk9 [(27,.agg #[K.v1 r,K.v2 r]),iv 25 r,iv 23 r]) [] (K.c0::K.cs) g
 |.vL=>aQ (b6 K.b K.q GF [pv 9 ⟨i,0,ω⟩,(27,.agg #[K.v1 r,K.v2 r]),iv 25 r,iv 23 r]) [] (K.c0::K.cs) g
 |.iJ=>aQ (b6 K.b K.q yl [pv 10 ⟨c,0,ω⟩,pv 9 ⟨i,0,ω⟩,(27,.agg #[K.v1 r,K.v2 r]),iv 25 r,iv 23 r]) [] (K.c0::K.cs) g
 |.iK=>aQ (b6 K.b K.q ym [pv 10 ⟨c,0,ω⟩,pv 9 ⟨i,0,ω⟩,(27,.agg #[K.v1 r,K.v2 r]),iv 23 r]) [] (K.c0::K.cs) g
 |.ad s=>jO K.b K.q r ⟨i,0,ω⟩ ⟨c,0,ω⟩ (K.c0::K.cs) s g
 |.mq s=>ey K.b K.q (K.c0::K.cs) s g
def tD(s:cZ)(w:μ):Prop:=
 match s with
 |.vL=>w.heap[i]?=Θ (Z8 #[ξ ο 0] 3)
 |.iJ=>w.heap[i]?=Θ (Z8 #[ξ ο 0] 3)/\∃u v,w.heap[c]?=Θ (Z8 #[u,v] 76)
 |.iK=>w.heap[i]?=Θ (Z8 #[ξ ο r] 3)/\∃u v,w.heap[c]?=Θ (Z8 #[u,v] 76)
 |.ad _=>uy K w r i c
 |_=>True
inductive o9:cZ->Nat->Nat->Ω->Prop
 |go {s:cZ} {k:Nat} {g g':Ω} (h:Path P0 Δ k g g') (hs:lj K r i c s g'):o9 s k 1 g
 |blk {g:Ω} (hs:lj K r i c (.mq .rJ) g):o9 (.mq .rJ) 0 0 {g with status:=.blocked}
end
def mE:cZ->Nat
 |.ad s=>CU s
 |.mq s=>CR s
 |_=>0
def wa:cZ->Bool
 |.mq .GQ|.mq .Eg|.mq .rJ=>Δ
 |_=>Ψ
def xa:cZ->Nat
 |.ad .QR|.ad .GS|.ad .ar|.ad .yt=>1
 |_=>0
def gone:cZ->Bool
 |.mq .qm|.mq .MB|.mq .Eh|.mq .yq|.mq .QO|.mq .KO|.mq .Bd|.mq .kI=>Δ
 |_=>Ψ
def Au:cZ->Bool
 |.mq _=>Ψ
 |_=>Δ
def rM(h:Sh):cZ->Nat
 |.s7=>20|.KQ=>19|.k9=>18|.vL=>17|.iJ=>16|.iK=>15
 |.ad .GR=>14|.ad .tA=>13|.ad .QR=>12|.ad .GS=>11|.ad .ar=>10|.ad .yt=>9
 |.mq .q7=>13|.mq .ql=>11
 |.mq (.qc k0)=>if k0=h.k then 10 else 12
 |.mq .GQ=>9|.mq .Eg=>8|.mq .rJ=>7|.mq .qm=>6|.mq .MB=>5|.mq .Eh=>4|.mq .yq=>3
 |.mq .QO=>9|.mq .KO=>8|.mq .Bd=>7
 |.mq .kI=>0
def QT(s:cZ)(h:Sh)(s':cZ)(h':Sh):Prop:=
 match s with
 |.s7=>s'=.KQ/\h'=h
 |.KQ=>s'=.k9/\h'=h
 |.k9=>s'=.vL/\h'=h
 |.vL=>s'=.iJ/\h'=h
 |.iJ=>s'=.iK/\h'=h
 |.iK=>s'=.ad .GR/\h'=h
 |.ad s=>∃t,s'=.ad t/\Ax s h t h'
 |.mq s=>∃t,s'=.mq t/\Mx s h t h'
def iE:cZ->Prop
 |.mq (.qc k0)=>0<k0
 |_=>True
theorem pb{s s':cZ}{h h':Sh}(hx:QT s h s' h'):h'.mu=h.mu/\h'.ms=h.ms/\rM h' s'<rM h s/\Au s'=Au s/\h'.ws<=h.ws/\(iE s->iE s')/\(gone s=Δ->h.k=0->gone s'=Δ/\h'.k=0):=by
 cases s with
 |ad s=>
  obtain⟨t,rfl,hx⟩:=hx;cases s with
  |yt=>exact hx.elim
  |tA=>obtain⟨rfl,rfl⟩:=hx;split<;>simp[rM,Au,iE,gone]
  |_=>obtain⟨rfl,rfl⟩:=hx;simp[rM,Au,iE,gone]
 |mq s=>
  obtain⟨t,rfl,hx⟩:=hx;cases s with
  |kI=>exact hx.elim
  |ql=>
   obtain⟨rfl,rfl⟩:=hx;split
   ·simp[rM,Au,iE,gone]
   ·rename_i c;simp[rM,Au,iE,gone];omega
  |qc b=>
   rcases hx with⟨a,rfl,rfl⟩|⟨a,rfl,rfl⟩
   ·simp[rM,Au,iE,gone,a]
   ·have:¬(b=h'.k):=fun e=>a e.symm
    simp[rM,Au,iE,gone,this]
  |rJ=>obtain⟨a,rfl,rfl⟩:=hx;simp[rM,Au,iE,gone]
  |_=>obtain⟨rfl,rfl⟩:=hx;simp[rM,Au,iE,gone]
 |_=>obtain⟨rfl,rfl⟩:=hx;simp[rM,Au,iE,gone]
theorem C6{s s':cZ}{h h':Sh}{G L M:Nat}(hx:QT s h s' h')(hg:iE s)(hI:mW (wa s) (xa s) h G L M):mW (wa s') (xa s') h' G L M/\(gone s'=Δ->gone s=Δ\/h'.k=0):=by
 cases s with
 |ad s=>
  obtain⟨t,rfl,hx⟩:=hx;cases s with
  |yt=>exact hx.elim
  |tA=>
   obtain⟨rfl,rfl⟩:=hx;obtain⟨c,f,e,i⟩:=hI;simp only[wa,xa]at c e i;split
   ·exact⟨⟨by simp only[xa];omega,f,fun _=>e trivial,fun h=>by cases h⟩,by simp[gone]⟩
   ·exact⟨⟨by simp only[xa];omega,f,fun _=>e trivial,fun h=>by cases h⟩,by simp[gone]⟩
  |_=>obtain⟨rfl,rfl⟩:=hx;exact⟨hI,by simp[gone]⟩
 |mq s=>
  obtain⟨t,rfl,hx⟩:=hx;cases s with
  |kI=>exact hx.elim
  |ql=>
   obtain⟨rfl,rfl⟩:=hx;split
   ·rename_i d;exact⟨hI,fun _=>.inr d⟩
   ·exact⟨hI,by simp[gone]⟩
  |qc j=>
   rcases hx with⟨c,rfl,rfl⟩|⟨c,rfl,rfl⟩
   ·obtain⟨q1,g,b,a⟩:=hI;simp only[wa,xa]at q1 b a;have b:=b trivial;have hg:0<j:=hg;exact⟨⟨q1,Nat.le_refl _,(fun h=>by cases h),fun _=>⟨rfl,by(try dsimp only);omega,.inr ⟨by omega,fun _=>by(try dsimp only);omega,fun h=>by cases h⟩⟩⟩,by simp[gone]⟩
   ·exact⟨hI,by simp[gone]⟩
  |rJ=>
   obtain⟨c,rfl,rfl⟩:=hx;obtain⟨q1,g,b,a⟩:=hI;simp only[wa,xa]at q1 b a;have a:=a trivial;have d:h.k=0:=by omega
   exact⟨⟨q1,g,(fun _=>⟨by(try dsimp only);omega,by(try dsimp only);omega,by omega,by omega⟩),fun h=>by cases h⟩,fun _=>.inr d⟩
  |q7=>obtain⟨rfl,rfl⟩:=hx;exact⟨hI,by simp[gone]⟩
  |GQ=>obtain⟨rfl,rfl⟩:=hx;exact⟨hI,by simp[gone]⟩
  |Eg=>obtain⟨rfl,rfl⟩:=hx;exact⟨hI,by simp[gone]⟩
  |_=>obtain⟨rfl,rfl⟩:=hx;exact⟨hI,fun _=>.inl rfl⟩
 |_=>obtain⟨rfl,rfl⟩:=hx;exact⟨hI,by simp[gone]⟩
structure SFx(K:PC)(r i c i' c':Nat)(dn:Bool)(s s':cZ)(h':Sh)(w w':μ):Prop where
 tape:w'.tape=w.tape
 output:w'.output=w.output
 os:ZY w.os w'.os
 size:w.heap.size<=w'.heap.size
 sh:ShAt 249 255 (K.B0+3) (K.B0+4) w' (dU h')
 others:∀x,x<w.heap.size->x≠K.B0+3->x≠K.B0+4->(dn=Δ->s=.iJ->x≠i) ->(dn=Δ->s=.iK->x≠c) ->w'.heap[x]?=w.heap[x]?
 rows:∀x,w.heap.size<=x->x<w'.heap.size->∃cs e f,w'.heap[x]?=Θ (.cells cs e f)/\K.TT e
 adG:∀x,dn=Δ->(s=.iJ/\x=i\/s=.iK/\x=c) ->∃cs e f,w'.heap[x]?=Θ (.cells cs e f)/\K.TT e
 box:tD K r i' c' s' w'
 bi:(i'=i/\(dn=Δ->s≠.k9))\/(dn=Δ/\s=.k9/\i'=w.heap.size/\w'.heap.size=w.heap.size+1)
 bc:(c'=c/\(dn=Δ->s≠.vL))\/(dn=Δ/\s=.vL/\c'=w.heap.size/\w'.heap.size=w.heap.size+1)
 only:w.heap.size<w'.heap.size->dn=Δ/\(s=.k9\/s=.vL)
structure SEv(K:PC)(i c:Nat)(s s':cZ)(w':μ)(es:Array ZW):Prop where
 ok:∀e∈es,∀x,(Γ e).touch?=Θ x->x.loc.isMemory=Δ->(K.ic x.loc/\x.kind≠.plain)\/(x.write=Ψ/\blk x.loc<K.B0/\¬K.S (blk x.loc))\/(s=.iJ/\blk x.loc=i)\/(s=.iK/\blk x.loc=c)
 low:∀e∈es,(Γ e).low w'.heap.size
 dfb:deafBehind (mE s) es=mE s'
 norel:∀e∈es,e.loc≠.mark (.release (stA (K.B0+4)))
 acq:s'=.mq .kI->s≠.mq .kI->es=#[mk (.acquire (stA (K.B0+4)))]
def nW:cZ->Bool
 |.vL|.iJ|.iK|.ad _=>Δ
 |_=>Ψ
def pc:cZ->Bool
 |.iJ|.iK|.ad _=>Δ
 |_=>Ψ
theorem Hb{s s':Mq}{h h':Sh}(hx:Mx s h s' h')(he:s'=.kI):s=.Bd\/s=.yq:=by
 subst he;cases s with
 |Bd=>exact .inl rfl
 |yq=>exact .inr rfl
 |kI=>exact hx.elim
 |qc a=>rcases hx with⟨_,_,h⟩|⟨_,_,h⟩<;>cases h
 |rJ=>obtain⟨_,_,h⟩:=hx;cases h
 |ql=>obtain⟨_,h⟩:=hx;split at h<;>cases h
 |_=>obtain⟨h,_⟩:=hx;cases h
def SPg(dn:Bool)(s s':cZ)(h h':Sh)(i i' c c' k k' z z':Nat)(g':Ω):Prop:=(dn=Ψ/\s'=s/\h'=h/\i'=i/\c'=c/\((k'<k/\z'=z)\/(k'=k/\z'<z/\h.ws=0/\g'.status=.blocked)))\/(dn=Δ/\QT s h s' h'/\z'=1)
section
variable{K:PC}{r i c i' c':Nat}{s s':cZ}{k z:Nat}{h h':Sh}{val:Nat->Int}{g:Ω}{w w':μ}{es:Array ZW}
theorem nX(hd:mE s=mE s')(hq:s'=.mq .kI->s=.mq .kI):SEv K i c s s' w' #[]:=⟨by simp,by simp,hd,by simp,fun a b=>absurd (hq a) b⟩
theorem yJ(hb:BookOK (K.B0+3) (K.B0+4) (mE s) (mE s') es)(hs:K.B0+5<=w'.heap.size)(hq:s'=.mq .kI->s=.mq .kI):SEv K i c s s' w' es:=by
 obtain⟨d,j,m⟩:=hb;refine⟨fun e b x f l=>?_,fun e b=>?_,j,fun e b=>?_,fun d j=>absurd (hq d) j⟩
 ·rcases d e b with h|h|⟨a,y,rfl,g⟩
  ·obtain⟨loc,wr,k⟩:=e;dsimp only at h;subst h;simp[Γ,φ]at f
  ·obtain⟨loc,wr,k⟩:=e;dsimp only at h;subst h;simp[Γ,φ]at f
  ·simp only[Γ,φ,κ]at f;subst f;exact .inl ⟨⟨a,rfl,g⟩,by simp⟩
 ·rcases d e b with h|h|⟨a,y,rfl,g⟩
  ·obtain⟨loc,wr,k⟩:=e;dsimp only at h;subst h;trivial
  ·obtain⟨loc,wr,k⟩:=e;dsimp only at h;subst h;trivial
  ·show a.block<_;omega
 ·rcases d e b with h|h|⟨a,y,rfl,g⟩
  ·rw[h];simp
  ·rw[h];simp
  ·simp
theorem nY{mm:Mark}(hm:mm=.acquire (stA (K.B0+4))\/mm=.write (smA (K.B0+4))\/mm=.read (smA (K.B0+4)))(hd:mE s=mE s')(hs:K.B0+5<=w'.heap.size)(hq:s'=.mq .kI->mm=.acquire (stA (K.B0+4))):SEv K i c s s' w' #[mk mm]:=by
 refine⟨fun e a x b f=>?_,fun e a=>?_,?_,fun e a=>?_,fun d _=>by rw[hq d]⟩
 ·rw[Ξ.1 a]at b;rcases hm with rfl|rfl|rfl
  ·cases b
  ·cases b
   exact .inl ⟨⟨_,rfl,.inr rfl⟩,by simp⟩
  ·cases b
   exact .inl ⟨⟨_,rfl,.inr rfl⟩,by simp⟩
 ·rw[Ξ.1 a];rcases hm with rfl|rfl|rfl
  ·show K.B0+4<_;omega
  ·show K.B0+4<_;omega
  ·show K.B0+4<_;omega
 ·rw[<-hd];exact Z0 (fun e a=>by rw[Ξ.1 a];rcases hm with rfl|rfl|rfl<;>simp[mk]) _
 ·rw[Ξ.1 a];rcases hm with rfl|rfl|rfl<;>simp[mk]
theorem yK(W:db K val h w)(hbox:tD K r i c s' w)(h1:s≠.k9)(h2:s≠.vL)(h3:s≠.iJ)(h4:s≠.iK):SFx K r i c i c Δ s s' h w w:=⟨rfl,rfl,.refl _,Nat.le_refl _,W.sh,fun _ _ _ _ _ _=>rfl,fun x h1 h2=>absurd h2 (Nat.not_lt.2 h1),fun x _ a=>by rcases a with⟨e,_⟩|⟨e,_⟩<;>contradiction,hbox,.inl ⟨rfl,fun _=>h1⟩,.inl ⟨rfl,fun _=>h2⟩,fun h=>absurd h (Nat.lt_irrefl _)⟩
theorem C7(W:db K val h w)(hsh:ShAt 249 255 (K.B0+3) (K.B0+4) w' (dU h'))(hE:Eff (K.B0+3) (K.B0+4) w w')(hbox:tD K r i c s' w')(h1:s≠.k9)(h2:s≠.vL)(h3:s≠.iJ)(h4:s≠.iK):SFx K r i c i c Δ s s' h' w w':=⟨hE.tape,hE.output,hE.os,Nat.le_of_eq hE.size.symm,hsh,fun x _ q1 a _ _=>hE.block x q1 a,fun x h1 h2=>absurd h2 (by rw[hE.size];exact Nat.not_lt.2 h1),fun x _ b=>by rcases b with⟨e,_⟩|⟨e,_⟩<;>contradiction,hbox,.inl ⟨rfl,fun _=>h1⟩,.inl ⟨rfl,fun _=>h2⟩,fun h=>absurd h (by rw[hE.size];exact Nat.lt_irrefl _)⟩
def MW(K:PC)(r i c:Nat)(s:cZ)(k z:Nat)(h:Sh)(g:Ω)(w:μ):Prop:=∃dn s' k' z' h' i' c' g' w' es,stepG P0 Δ g w=.go g' w' es/\o9 K r i' c' s' k' z' g'/\SFx K r i c i' c' dn s s' h' w w'/\SEv K i c s s' w' es/\SPg dn s s' h h' i i' c c' k k' z z' g'
theorem nZ:K.q.wg=stA (K.B0+4):=rfl
theorem gt{t:Mq}(W:db K val h w)(ho:nR 249 255 (K.B0+3) (K.B0+4) K.b K.q (K.c0::K.cs) t h g w):MW K r i c (.mq t) 0 1 h g w:=by
 obtain⟨p,u,x,o,k,j,l,m,n,a,v,s,y,f,eq⟩:=ho;have d:K.B0+5<=o.heap.size:=by rw[n.size];exact W.size
 refine⟨Δ,.mq p,v,1,u,i,c,x,o,k,l,.go f eq,C7 W m n trivial (by simp) (by simp) (by simp) (by simp),?_,.inr ⟨rfl,⟨p,rfl,j⟩,rfl⟩⟩;cases t with
 |Bd=>obtain⟨rfl,_⟩:=j;have:k=_:=a;rw[this];exact nY (.inl rfl) rfl d (fun _=>rfl)
 |yq=>obtain⟨rfl,_⟩:=j;have:k=_:=a;rw[this];exact nY (.inl rfl) rfl d (fun _=>rfl)
 |Eg=>obtain⟨rfl,_⟩:=j;have:k=_:=a;rw[this];exact nY (.inr (.inl rfl)) rfl d (by simp)
 |_=>exact yJ a d (fun e=>by rcases Hb j (cZ.mq.inj e)with h|h<;>cases h)
theorem rN{t:Ma}(W:db K val h w)(hi:i<w.heap.size)(hiB:K.B0+5<=i)(hcB:K.B0+5<=c)(hbox:uy K w r i c)(ho:Ej 249 255 (K.B0+3) (K.B0+4) K.b K.q r ⟨i,0,ω⟩ ⟨c,0,ω⟩ (K.c0::K.cs) t h g w):MW K r i c (.ad t) 0 1 h g w:=by
 obtain⟨m,s,u,l,n,o,j,k,f,d,v,p,x,a,eq⟩:=ho;have e:K.B0+5<=l.heap.size:=by rw[f.size];exact W.size
 refine⟨Δ,.ad m,v,1,s,i,c,u,l,n,j,.go a eq,C7 W k f ⟨by rw[f.block _ (by omega) (by omega)];exact hbox.1,by rw[f.block _ (by omega) (by omega)];exact hbox.2⟩ (by simp) (by simp) (by simp) (by simp),?_,.inr ⟨rfl,⟨m,rfl,o⟩,rfl⟩⟩;cases t with
 |GS=>obtain⟨rfl,_⟩:=o;have:n=_:=d;rw[this];exact nY (.inr (.inr rfl)) rfl e (by simp)
 |_=>exact yJ d e (by simp)
theorem Hc(W:db K val h w)(hbox:tD K r i c s w){g1:Ω}(hst:∀w,stepG P0 Δ g w=.go g1 w #[])(hsit:o9 K r i c s k z g1):MW K r i c s (k+1) z h g w:=by exact⟨Ψ,s,k,z,h,i,c,g1,w,#[],hst w,hsit,⟨rfl,rfl,.refl _,Nat.le_refl _,W.sh,fun _ _ _ _ _ _=>rfl,fun x a b=>absurd b (Nat.not_lt.2 a),(fun x h=>by cases h),hbox,.inl ⟨rfl,fun h=>by cases h⟩,.inl ⟨rfl,fun h=>by cases h⟩,fun h=>absurd h (Nat.lt_irrefl _)⟩,nX rfl id,.inl ⟨rfl,rfl,rfl,rfl,rfl,.inl ⟨by omega,rfl⟩⟩⟩
theorem Bg{i:Int}{ib cb:Z9}{cs:List ZX}{t:Ma}{b:Bool}{q:MP}(h:jO b q i ib cb cs t g):g.status=.running/\g.offers=ω:=by
 have a:∀{d:bG} {ds:List bG},aQ d ds cs g->g.status=.running/\g.offers=ω:=fun h=>by obtain⟨F,rfl⟩:=h;exact⟨rfl,rfl⟩
 cases t<;>exact a h
theorem Bh{cs:List ZX}{t:Mq}{b:Bool}{q:MP}(h:ey b q cs t g):g.status=.running/\g.offers=ω:=by
 have a:∀{d:bG} {ds:List bG},aQ d ds cs g->g.status=.running/\g.offers=ω:=fun h=>by obtain⟨F,rfl⟩:=h;exact⟨rfl,rfl⟩
 cases t with
 |qc c=>exact a h.1
 |GQ=>obtain⟨_,h,_⟩:=h;exact a h
 |Eg=>obtain⟨_,h,_⟩:=h;exact a h
 |_=>exact a h
theorem jQ(h:lj K r i c s g):g.status=.running/\g.offers=ω:=by
 have a:∀{d:bG} {ds:List bG} {cs:List ZX},aQ d ds cs g->g.status=.running/\g.offers=ω:=fun h=>by obtain⟨F,rfl⟩:=h;exact⟨rfl,rfl⟩
 cases s with
 |ad t=>exact Bg h
 |mq t=>exact Bh h
 |KQ=>obtain⟨_,_,h⟩:=h;exact a h
 |_=>exact a h
theorem o9.status(h:o9 K r i c s k z g):(g.status=.running/\z=1)\/(g.status=.blocked/\z=0/\g.offers=ω/\s=.mq .rJ):=by
 cases h with
 |go h hs=>exact .inl ⟨h.running (jQ hs).1,rfl⟩
 |blk hs=>exact .inr ⟨rfl,rfl,(jQ hs).2,rfl⟩
theorem Bi(A:dX K)(hrn:Au s=Δ->r<K.n)(W:db K val h w)(hbox:tD K r i c s w)(hi:nW s=Δ->K.B0+5<=i/\i<w.heap.size)(hc:pc s=Δ->K.B0+5<=c/\c<w.heap.size/\i≠c)(hsit:o9 K r i c s k z g)(hr:g.status=.running)
 (hgo:s=.ad .yt->0<k) (hend:s=.mq .kI->0<k) (hk:h.k<1073741823) {G L M:Nat} (hI:mW (wa s) (xa s) h G L M) (adI:gone s=Δ->h.k=0):MW K r i c s k z h g w:=by
 have hsz:=W.size;cases hsit with
 |blk hs=>cases hr
 |@go _ k _ O J hs=>
  cases k with
  |succ k=>obtain⟨_,g1,l,h1'⟩:=J;exact Hc W hbox l (.go h1' hs)
  |zero=>
   have:O=g:=J;subst this;cases s with
   |s7=>obtain⟨a,Y,B,I,Q,cs,e,f,q1,q2,q3⟩:=A.data r (hrn rfl);have D:=Uq (h:=hs);have Z:K.q.ca=Θ a:=Y;rw[Z]at D;have l:=jr (P:=P0) (main:=Δ) (w:=w) (ad:=a) (k:=ο) (i:=r) D ak6 L7 (hrn rfl);obtain⟨H,F,S,j,eq⟩:=TG K.b K.q r (a.add (r*2)) K.cs K.c0 O hs;exact⟨Δ,.KQ,H,1,h,i,c,_,w,_,l,.go j ⟨a,Y,eq⟩,yK W trivial (by simp) (by simp) (by simp) (by simp),nX rfl (by simp),.inr ⟨rfl,⟨rfl,rfl⟩,rfl⟩⟩
   |KQ=>
    obtain⟨a,Y,hs⟩:=hs;obtain⟨a',U,B,I,Q,cs,e,f,q1,q2,q3⟩:=A.data r (hrn rfl);rw[Y]at U;cases U
    obtain⟨ab,ao,asp⟩:=a;dsimp only at Q q1 q2 q3 B I;subst Q;rw[aP]at hs;have D:=Ur (h:=hs);have l:=jp (P:=P0) (main:=Δ) (w:=w) D acb L7 (v:=K.v1 r) (v2:=K.v2 r) (by rw[aP,bM (by rw[W.low _ B];exact q1)];exact q2) (by rw[aP,bM (by rw[W.low _ B];exact q1)];exact q3) (by rw[aQ.cg hs];exact uw);obtain⟨H,F,S,j,eq⟩:=TH K.b K.q r ⟨ab,ao+r*2,ω⟩ (.agg #[K.v1 r,K.v2 r]) K.cs K.c0 O hs;refine⟨Δ,.k9,H,1,h,i,c,_,w,_,l,.go j eq,yK W trivial (by simp) (by simp) (by simp) (by simp),⟨fun e y x m hm=>?_,fun e y=>?_,rfl,fun e y=>?_,by simp⟩,.inr ⟨rfl,⟨rfl,rfl⟩,rfl⟩⟩
    all_goals
     simp only[aP,List.mem_toArray,List.mem_cons,List.not_mem_nil,or_false]at y
    ·right;left;rcases y with rfl|rfl
     ·cases m;exact⟨rfl,B,I⟩
     ·cases m;exact⟨rfl,B,I⟩
    ·rcases y with rfl|rfl
     ·show ab<_;omega
     ·show ab<_;omega
    ·rcases y with rfl|rfl<;>simp
   |k9=>
    have D:=acM (h:=hs);have l:=gq (P:=P0) (main:=Δ) (w:=w) D z3;obtain⟨H,F,S,j,eq⟩:=acs K.b K.q r ⟨w.heap.size,0,ω⟩ (.agg #[K.v1 r,K.v2 r]) K.cs K.c0 O hs;have d:(w.alloc (.cells (Value.int IntKind.i64 0).cells 3)).heap=w.heap.push (Z8 #[ξ ο 0] 3):=rfl;refine⟨Δ,.vL,H,1,h,w.heap.size,c,_,_,_,l,.go j eq,⟨rfl,rfl,.refl _,by rw[d];simp,W.sh.of_block (by rw[d,υ (by omega)];simp[ψ (show K.B0+3<w.heap.size by omega)]) (by rw[d,υ (by omega)];simp[ψ (show K.B0+4<w.heap.size by omega)]),fun x m _ _ _ _=>?_,fun x J E=>?_,fun x _ m=>?_,?_,.inr ⟨rfl,rfl,rfl,by rw[d];simp⟩,.inl ⟨rfl,by simp⟩,fun _=>⟨rfl,.inl rfl⟩⟩,nX rfl (by simp),.inr ⟨rfl,⟨rfl,rfl⟩,rfl⟩⟩
    ·rw[d,υ m,ψ m]
    ·rw[d]at E⊢;simp only[ZV]at E;have:x=w.heap.size:=by omega
     subst this;exact⟨#[ξ ο 0],3,(0,0),by simp,A.TT.2.2.2.2.2.1⟩
    ·rcases m with⟨e,_⟩|⟨e,_⟩<;>cases e
    ·show(w.alloc _).heap[w.heap.size]?=_;rw[d];simp
   |vL=>
    have hi:=hi rfl;have D:=Us (h:=hs);obtain⟨X,hz⟩:=z76;have l:=gq (P:=P0) (main:=Δ) (w:=w) D hz;obtain⟨H,F,S,j,eq⟩:=TJ K.b K.q r ⟨i,0,ω⟩ ⟨w.heap.size,0,ω⟩ (.agg #[K.v1 r,K.v2 r]) K.cs K.c0 O hs;have d:(w.alloc (.cells (Value.agg #[ξ ο 0,X]).cells 76)).heap=w.heap.push (Z8 #[ξ ο 0,X] 76):=rfl;have hbox:w.heap[i]?=Θ (Z8 #[ξ ο 0] 3):=hbox;refine⟨Δ,.iJ,H,1,h,i,w.heap.size,_,_,_,l,.go j eq,⟨rfl,rfl,.refl _,by rw[d];simp,W.sh.of_block (by rw[d,υ (by omega)];simp[ψ (show K.B0+3<w.heap.size by omega)]) (by rw[d,υ (by omega)];simp[ψ (show K.B0+4<w.heap.size by omega)]),fun x m _ _ _ _=>?_,fun x J E=>?_,fun x _ m=>?_,⟨?_,ξ ο 0,X,?_⟩,.inl ⟨rfl,by simp⟩,.inr ⟨rfl,rfl,rfl,by rw[d];simp⟩,fun _=>⟨rfl,.inr rfl⟩⟩,nX rfl (by simp),.inr ⟨rfl,⟨rfl,rfl⟩,rfl⟩⟩
    ·rw[d,υ m,ψ m]
    ·rw[d]at E⊢;simp only[ZV]at E;have:x=w.heap.size:=by omega
     subst this;exact⟨#[ξ ο 0,X],76,(0,0),by simp,A.TT.2.2.2.2.2.2⟩
    ·rcases m with⟨e,_⟩|⟨e,_⟩<;>cases e
    ·rw[d,υ hi.2,<-ψ hi.2];exact hbox
    ·rw[d];simp
   |iJ=>
    have hi:=hi rfl;obtain⟨C,hc2,N⟩:=hc rfl;obtain⟨R,u,v,T⟩:=hbox;have D:=ME (h:=hs);have l:=iS (P:=P0) (main:=Δ) (w:=w) D si3 rfl rfl (v:=ξ ο 0) (by rw[aP,bM R];rfl) (by rw[aP];exact g8 R) (by rw[aQ.cg hs];exact uw);rw[aP]at l;obtain⟨H,F,S,j,eq⟩:=Mw K.b K.q r ⟨i,0,ω⟩ ⟨c,0,ω⟩ (.agg #[K.v1 r,K.v2 r]) K.cs K.c0 O hs;have e1:=jP (o:=0) (v:=ξ ο r) R;refine⟨Δ,.iK,H,1,h,i,c,_,_,_,l,.go j eq,⟨rfl,rfl,.refl _,by rw[cE];exact Nat.le_refl _,W.sh.of_block (dh (by show K.B0+3≠i;omega)) (dh (by show K.B0+4≠i;omega)),fun x _ _ _ q1 _=>dh (q1 rfl rfl),fun x J E=>absurd E (by rw[cE];omega),fun x _ m=>?_,⟨e1,u,v,?_⟩,.inl ⟨rfl,by simp⟩,.inl ⟨rfl,by simp⟩,fun h=>absurd h (by rw[cE];exact Nat.lt_irrefl _)⟩,⟨fun e y x m hm=>?_,fun e y=>?_,rfl,fun e y=>?_,by simp⟩,.inr ⟨rfl,⟨rfl,rfl⟩,rfl⟩⟩
    ·rcases m with⟨_,rfl⟩|⟨e,_⟩
     ·exact⟨_,_,_,e1,A.TT.2.2.2.2.2.1⟩
     ·cases e
    ·rw[dh (by exact Ne.symm N)];exact T
    ·rw[Ξ.1 y]at m;cases m
     exact .inr (.inr (.inl ⟨rfl,rfl⟩))
    ·rw[Ξ.1 y,cE];exact hi.2
    ·rw[Ξ.1 y];simp
   |iK=>
    have hi:=hi rfl;have hc:=hc rfl;have N:=hc.2.2;obtain⟨R,u,v,T⟩:=hbox;have D:=MF (h:=hs);have e1:=jP (o:=0) (v:=K.v1 r) T;have e2:=jP (o:=1) (v:=K.v2 r) e1;have l:=ut (P:=P0) (main:=Δ) (w:=w) D L7 (A.ads r (hrn rfl)).1 (A.ads r (hrn rfl)).2 (v:=u) (v2:=v) (by rw[aP,bM T];rfl) (by rw[aP];exact g8 T) (by rw[aP,aP,bM e1];rfl) (by rw[aP,aP];exact g8 e1) (by rw[aQ.cg hs];exact uw);rw[aP,aP]at l;obtain⟨H,F,S,j,eq⟩:=My K.b K.q r ⟨i,0,ω⟩ ⟨c,0,ω⟩ (.agg #[K.v1 r,K.v2 r]) K.cs K.c0 O hs;have V:∀{x:Nat},x≠c->((w.setCell ⟨c,0,ω⟩ (K.v1 r)).setCell ⟨c,1,ω⟩ (K.v2 r)).heap[x]?=w.heap[x]?:=fun m=>by rw[dh (by exact m),dh (by exact m)]
    refine⟨Δ,.ad .GR,H,1,h,i,c,_,_,_,l,.go j eq,⟨rfl,rfl,.refl _,by rw[cE,cE];exact Nat.le_refl _,W.sh.of_block (V (by omega)) (V (by omega)),fun x _ _ _ _ q1=>V (q1 rfl rfl),fun x J E=>absurd E (by rw[cE,cE];omega),fun x _ m=>?_,⟨?_,?_⟩,.inl ⟨rfl,by simp⟩,.inl ⟨rfl,by simp⟩,fun h=>absurd h (by rw[cE,cE];exact Nat.lt_irrefl _)⟩,⟨fun e y x m hm=>?_,fun e y=>?_,rfl,fun e y=>?_,by simp⟩,.inr ⟨rfl,⟨rfl,rfl⟩,rfl⟩⟩
    ·rcases m with⟨e,_⟩|⟨_,rfl⟩
     ·cases e
     ·exact⟨_,_,_,e2,A.TT.2.2.2.2.2.2⟩
    ·rw[V N];exact R
    ·exact e2
    all_goals
     simp only[List.mem_toArray,List.mem_cons,List.not_mem_nil,or_false]at y
    ·right;right;right;rcases y with rfl|rfl
     ·cases m;exact⟨rfl,rfl⟩
     ·cases m;exact⟨rfl,rfl⟩
    ·rw[cE,cE];rcases y with rfl|rfl<;>exact hc.2.1
    ·rcases y with rfl|rfl<;>simp
   |ad t=>
    have p:=hi rfl;have C:=hc rfl;have hid:wa (.ad t)=Ψ:=rfl;have hwt:=(hI.idle hid).1;cases t with
    |GR=>exact rN W p.2 p.1 C.1 hbox (Um W.sh hs)
    |tA=>exact rN W p.2 p.1 C.1 hbox (MC nZ (by omega) hk hwt W.sh hs)
    |QR=>exact rN W p.2 p.1 C.1 hbox (Un nZ W.sh hs)
    |GS=>exact rN W p.2 p.1 C.1 hbox (Uo nZ W.sh hs)
    |ar=>exact rN W p.2 p.1 C.1 hbox (acH W.sh hs)
    |yt=>exact absurd (hgo rfl) (by omega)
   |mq t=>
    cases t with
    |q7=>exact gt W (acD W.sh hs)
    |ql=>exact gt W (acE nZ (by omega) (hI.idle rfl).1 W.sh hs)
    |qc k0=>exact gt W (acF nZ (by omega) (by omega) (hI.idle rfl).1 W.sh hs)
    |QO=>exact gt W (Ud W.sh hs)
    |KO=>exact gt W (Ue nZ W.sh hs)
    |Bd=>exact gt W (Uf nZ W.sh hs)
    |GQ=>exact gt W (Ug nZ W.sh hs)
    |Eg=>exact gt W (Uh nZ W.sh hs)
    |rJ=>
     by_cases h0:h.ws=0
     ·have l:=yr (tM:=249) (tW:=255) (Mu:=K.B0+3) nZ h0 W.sh hs;exact⟨Ψ,.mq .rJ,0,0,h,i,c,_,w,#[],l,.blk hs,⟨rfl,rfl,.refl _,Nat.le_refl _,W.sh,fun _ _ _ _ _ _=>rfl,fun x J E=>absurd E (Nat.not_lt.2 J),(fun x h=>by cases h),trivial,.inl ⟨rfl,fun h=>by cases h⟩,.inl ⟨rfl,fun h=>by cases h⟩,fun h=>absurd h (Nat.lt_irrefl _)⟩,nX rfl id,.inl ⟨rfl,rfl,rfl,rfl,rfl,.inr ⟨rfl,by omega,h0,rfl⟩⟩⟩
     ·exact gt W (Ui nZ (by omega) (by omega) W.sh hs)
    |qm=>exact gt W (acG nZ (adI rfl) (hI.idle rfl).1 W.sh hs)
    |MB=>exact gt W (Uj W.sh hs)
    |Eh=>exact gt W (Uk nZ W.sh hs)
    |yq=>exact gt W (Ul nZ W.sh hs)
    |kI=>exact absurd (hend rfl) (by omega)
end
end
end Ph
namespace Ph
open Go Go.Conc
open Go.ConcN (sumTo upd sumTo_upd upd_ne upd_same RelBy)
open Go.ConcM (muA msA MuAt ShAt Eff BookOK Bk2)
open Go.ConcR (stA smA WgAt mk)
open Go.ConcX (again_blocked)
section
variable{g':Ω}{w':μ}{p:WP}
structure CD where
 r:Nat
 s:cZ
 i:Nat
 c:Nat
 k:Nat
 z:Nat
 st:Nat->St
 X:Nat->Nat->Prop
 l:Nat->Nat
 kk:Nat->Nat
 zz:Nat->Nat
 ib:Nat->Nat
 cb:Nat->Nat
 H:Nat->Nat
 Z:Nat
 h:Sh
 q:Nat->Nat
 f:Nat->Nat->Nat
def valOf(K:PC)(D:CD)(i:Nat):Int:=if i<D.r/\cu (D.st i)=Δ then K.ev i else 0
structure CW(K:PC)(w0:μ)(D:CD)(w:μ):Prop where
 tape:w.tape=w0.tape
 output:w.output=w0.output
 os:ZY w0.os w.os
 at_:db K (valOf K D) D.h w
 box:∀j,j<D.r->uy K w j (D.ib j) (D.cb j)
 Hd:tD K D.r D.i D.c D.s w
 hz:∀j,j<D.r->K.B0+5<=D.ib j/\D.ib j<D.H j/\K.B0+5<=D.cb j/\D.cb j<D.H j/\D.H j<=D.Z
 zs:K.B0+5<=D.Z/\D.Z<=w.heap.size
 Bj:∀j,j<D.r->∀k,¬D.X k (D.ib j)/\¬D.X k (D.cb j)
 hi:nW D.s=Δ->D.Z<=D.i/\D.i<w.heap.size/\∀k,¬D.X k D.i
 hc:pc D.s=Δ->D.Z<=D.c/\D.c<w.heap.size/\D.i≠D.c/\∀k,¬D.X k D.c
 xr:∀k x,D.X k x->k<D.r/\K.B0+5<=x/\x<w.heap.size
 xd:∀k k' x,D.X k x->D.X k' x->k=k'
 x4:∀j,j<D.r->4<=D.l j->D.X j=fun _=>False
 rows:∀x,K.B0+5<=x->x<w.heap.size->(∃j,j<D.r/\D.st j=.pv/\D.X j x)\/∃cs e f,w.heap[x]?=Θ (.cells cs e f)/\K.TT e
 who:∀x,K.B0+5<=x->x<w.heap.size->(∃j,j<D.r/\D.st j=.pv/\D.X j x)\/(∃j,j<D.r/\D.l j<=2/\∃i,i<K.C/\x=D.f j i)\/(∃j,j<D.r/\(x=D.ib j\/x=D.cb j))\/(nW D.s=Δ/\x=D.i)\/(pc D.s=Δ/\x=D.c)
structure CN(K:PC)(D:CD):Prop where
 rn:D.r<=K.n
 inr:Au D.s=Δ->D.r<K.n
 out:Au D.s=Ψ->D.r=K.n
 gi:GI D.r D.st D.h
 vM:∀j,j<D.r->rG K.n (D.st j)
 wg:mW (wa D.s) (xa D.s) D.h (cnt D.r nG D.st) (cnt D.r nL D.st) (cnt D.r nM D.st)
 mf:iE D.s
 gone:gone D.s=Δ->D.h.k=0
 zs:D.z=0->D.h.ws=0
 zw:∀j,j<D.r->D.zz j=0->D.h.ms=0
structure CT(K:PC)(D:CD)(B:Nat)(t:Trace):Prop where
 d0:Deaf t 0=mE D.s
 dw:∀j,j<D.r->Deaf t (K.p0+j)=deaf (D.st j)
 dz:∀j,K.p0+D.r<=j->Deaf t j=0
 ti:D.s≠.mq .kI->TI K.Shun K.ic (K.Own D.X) K.p0 D.r D.Z D.H B t/\(∀j,j<D.r->dC (D.st j)=Δ->∃i,RelBy (stA (K.B0+4)) t (K.p0+j) i)/\NoRelease (stA (K.B0+4)) t
 pa:D.s=.mq .kI->Past (fun l=>K.Shun l\/K.ic l) B t/\∀i x,Z3 t i=Θ x->K.ic x.loc->x.kind≠.plain
structure CI(K:PC)(w0:μ)(D:CD)(gs:Array Ω)(w:μ)(t:Trace):Prop where
 size:gs.size=K.p0+D.r
 g0:∃g,gs[0]?=Θ g/\o9 K D.r D.i D.c D.s D.k D.z g
 old:∀j g,0<j->j<K.p0->gs[j]?=Θ g->QuitsD P0 (D.q j) (Deaf t j) g
 wk:∀j,j<D.r->∃g,gs[K.p0+j]?=Θ g/\WSit K j (K.wp (D.ib j) (D.cb j)) (D.st j) (D.X j) (D.l j) (D.kk j) (D.zz j) g w
 cw:CW K w0 D w
 cn:CN K D
 ct:CT K D w.heap.size t
def mu(K:PC)(D:CD):Nat×Nat×Nat×Nat×Nat:=(K.n-D.r,sumTo D.r D.l,meas D.r D.st D.h+rM D.h D.s,sumTo D.r D.kk+D.k+sumTo K.p0 D.q,sumTo D.r D.zz+D.z)
def vN(a b:Nat×Nat×Nat×Nat×Nat):Prop:=a.1<b.1\/(a.1=b.1/\(a.2.1<b.2.1\/(a.2.1=b.2.1/\(a.2.2.1<b.2.2.1\/(a.2.2.1=b.2.2.1/\(a.2.2.2.1<b.2.2.2.1\/(a.2.2.2.1=b.2.2.2.1/\a.2.2.2.2<b.2.2.2.2)))))))
theorem MX:WellFounded vN:=by
 have h:=(inferInstance:WellFoundedRelation (Nat×Nat×Nat×Nat×Nat)).wf;refine Subrelation.wf (fun {a b} c=>?_) h;obtain⟨a1,g,k,d,m⟩:=a;obtain⟨e,i,l,j,f⟩:=b;unfold vN at c;dsimp only at c;rcases c with h|⟨rfl,h|⟨rfl,h|⟨rfl,h|⟨rfl,h⟩⟩⟩⟩
 ·exact ZZ _ _ h
 ·exact ι _ (ZZ _ _ h)
 ·exact ι _ (ι _ (ZZ _ _ h))
 ·exact ι _ (ι _ (ι _ (ZZ _ _ h)))
 ·exact ι _ (ι _ (ι _ (ι _ h)))
def dY(g g':Ω):Bool:=mayWake P0 g&&g'.status !=.blocked&&g'.status !=.waiting
theorem yL{g o:Ω}:woken P0 g g' w' o=if dY g g' then o.again w' else o:=rfl
theorem WSit.woken{K:PC}{j:Nat}{s:St}{X:Nat->Prop}{l k z:Nat}{g a a':Ω}{w:μ}(h:WSit K j p s X l k z g w):WSit K j p s X l k (if dY a a' then 1 else z) (Go.Conc.woken P0 a a' w' g) w:=by
 rw[yL];by_cases hw:dY a a'=Δ
 ·rw[if_pos hw,if_pos hw];have b:∀{g:Ω},g.status=.running\/g.status=.finished->g.again w'=g:=fun h=>again_running _ h
  cases h with
  |go h hs n f i=>rw[b (.inl (h.running (rK hs).1))];exact .go h hs n f i
  |w8 h hs=>rw[b (.inl (h.running (by obtain⟨F,rfl⟩:=hs;rfl)))];exact .w8 h hs
  |blk hs=>have:=js hs;rw[again_blocked this.1 this.2];exact .go (k:=0) rfl hs (by simp) (by simp) (by simp)
  |ap c h e d=>rw[b (.inl (h.running rfl))];exact .ap c h e d
  |pv c m O q h o e d=>rw[b (.inl h.running)];exact .pv c m O q h o e d
  |fin h=>rw[b (.inr h)];exact .fin h
 ·rw[if_neg hw,if_neg hw];exact h
theorem o9.woken{K:PC}{r i c:Nat}{s:cZ}{k z:Nat}{g a a':Ω}(h:o9 K r i c s k z g):o9 K r i c s k (if dY a a' then 1 else z) (Go.Conc.woken P0 a a' w' g):=by
 rw[yL];by_cases hw:dY a a'=Δ
 ·rw[if_pos hw,if_pos hw];cases h with
  |go h hs=>rw[again_running _ (.inl (h.running (jQ hs).1))];exact .go h hs
  |blk hs=>have:=jQ hs;rw[again_blocked this.1 this.2];exact .go (k:=0) rfl hs
 ·rw[if_neg hw,if_neg hw];exact h
theorem WSit.others{K:PC}{j:Nat}{p:WP}{s:St}{X:Nat->Prop}{l k z:Nat}{g:Ω}{w w':μ}(h:WSit K j p s X l k z g w)(hs:w.heap.size<=w'.heap.size)(hY:∀b,b<K.B0->w'.heap[b]?=w.heap[b]?)(hX:s=.pv->∀x,X x->w'.heap[x]?=w.heap[x]?):WSit K j p s X l k z g w':=by
 cases h with
 |go h hs m f i=>exact .go h hs m f i
 |w8 h hs=>exact .w8 h hs
 |blk hs=>exact .blk hs
 |ap a h e d=>exact .ap a h e d
 |pv a n O c h o e d=>exact .pv a n O c h (o.others hs hY fun x q=>hX rfl x (by rw[c];exact q)) e d
 |fin h=>exact .fin h
theorem WSit.at{K:PC}{j:Nat}{s:St}{X:Nat->Prop}{l k z:Nat}{g:Ω}{w:μ}(h:WSit K j p s X l k z g w)(d:Nat):WSit K j p s X l k z g (w.at d):=h.others (Nat.le_refl _) (fun _ _=>rfl) (fun _ _ _=>rfl)
theorem WSit.lv3{K:PC}{j:Nat}{s:St}{X:Nat->Prop}{l k z:Nat}{g:Ω}{w:μ}(h:WSit K j p s X l k z g w):(s=.pv->2<l)/\(s=.ld->l=2):=by
 cases h with
 |go h hs i b f=>exact⟨(fun h=>absurd h b),fun h=>by rw[h];rfl⟩
 |w8 h hs=>exact⟨(fun h=>by cases h),fun h=>by cases h⟩
 |blk hs=>exact⟨(fun h=>by cases h),fun h=>by cases h⟩
 |ap a h d c=>exact⟨(fun _=>by omega),fun h=>by cases h⟩
 |pv a m O e h n d c=>exact⟨(fun _=>by omega),fun h=>by cases h⟩
 |fin h=>exact⟨(fun h=>by cases h),fun h=>by cases h⟩
theorem db.at{K:PC}{val:Nat->Int}{h:Sh}{w:μ}(W:db K val h w)(d:Nat):db K val h (w.at d):=⟨W.size,W.low,W.gb,W.er,W.eb,W.sh.of_block rfl rfl⟩
theorem MY{K:PC}{r i c:Nat}{s:cZ}{w:μ}(h:tD K r i c s w)(d:Nat):tD K r i c s (w.at d):=by
 cases s with
 |vL=>exact h
 |iJ=>exact h
 |iK=>exact h
 |ad t=>exact h
 |_=>trivial
theorem CW.at{K:PC}{w0 w:μ}{D:CD}(C:CW K w0 D w)(d:Nat):CW K w0 D (w.at d):=⟨C.tape,C.output,C.os,C.at_.at d,C.box,MY C.Hd d,C.hz,C.zs,C.Bj,C.hi,C.hc,C.xr,C.xd,C.x4,C.rows,C.who⟩
theorem C8{f:Nat->Nat}{i r x:Nat}(hi:i<r):sumTo r (upd f i x)+f i=sumTo r f+x:=sumTo_upd f x id hi
theorem n6{α:Type}(f:Nat->α)(i:Nat):upd f i (f i)=f:=by
 funext a
 simp only[upd];split
 ·rename_i h;rw[h]
 ·rfl
theorem eA{F:St->Nat}{n:Nat}{st:Nat->St}{i:Nat}{s':St}(hi:i<n)(h:F s'=F (st i)):cnt n F (upd st i s')=cnt n F st:=by have:=lO (F:=F) (st:=st) hi s';omega
theorem pd{gs:Array Ω}{f:Ω->Ω}{a:Nat}(h:a<gs.size):((gs.map f).setIfInBounds a g')[a]?=Θ g':=by simp[h]
theorem fw{gs:Array Ω}{f:Ω->Ω}{a j:Nat}(h:a≠j):((gs.map f).setIfInBounds a g')[j]?=gs[j]?.map f:=by rw[Array.getElem?_setIfInBounds_ne h,Array.getElem?_map]
theorem gu{g:Nat}{fn:FuncId}{pos:String}{es:Array ZW}:∀op∈MemOp.ofEvents g fn pos es,op.g=g:=fun op a=>by obtain⟨e,_,rfl⟩:=Go.Conc.mem_ofEvents a;rfl
theorem gw{K:PC}{X:Nat->Nat->Prop}{k:Nat}{l:Go.Loc}(h:K.Own X k l):(l=.cell ⟨K.B0+1,k,ω⟩)\/X k (blk l):=h.elim (fun h=>.inl h.1) fun h=>.inr h.2
theorem fam{K:PC}{w0 w:μ}{D:CD}(A:dX K)(C:CW K w0 D w):Fam K.Shun K.ic (K.Own D.X) K.p0 D.r D.Z D.H:=by
 have c:∀{k x},D.X k x->K.B0+5<=x:=fun h=>(C.xr _ _ h).2.1
 refine⟨fun k m l b g=>?_,fun k l b=>⟨fun hs=>?_,fun hs=>?_⟩,fun j e=>(C.hz j e).2.2.2.2,A.pos,fun l f=>by obtain⟨a,rfl,_⟩:=f;rfl⟩
 ·rcases gw b with e1|e1<;>rcases gw g with e2|e2
  ·rw[e1]at e2;simp only[Loc.cell.injEq,Addr.mk.injEq,true_and,and_true]at e2;exact e2
  ·rw[e1]at e2;have:K.B0+5<=K.B0+1:=c e2;omega
  ·rw[e2]at e1;have:K.B0+5<=K.B0+1:=c e1;omega
  ·exact C.xd _ _ _ e1 e2
 ·obtain⟨a,rfl,i⟩:=hs;rcases gw b with e1|e1
  ·simp only[Loc.cell.injEq]at e1;subst e1;dsimp only at i;omega
  ·have:K.B0+5<=a.block:=c e1;omega
 ·rcases gw b with e1|e1
  ·subst e1;have:K.B0+1<K.B0:=A.SB _ hs;omega
  ·have d:=c e1;cases l with
   |cell a=>have:=A.SB _ hs;simp only[blk]at d;omega
   |obj r=>have:=A.SB _ hs;simp only[blk]at d;omega
   |_=>exact hs.elim
end
end Ph
