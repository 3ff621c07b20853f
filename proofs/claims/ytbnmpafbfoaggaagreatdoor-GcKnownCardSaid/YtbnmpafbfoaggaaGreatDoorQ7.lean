/- A part of the proof of GcKnown; no conditions. -/
import Derived.Test.YtbnmpafbfoaggaaGreatDoorQ6
set_option linter.unusedVariables false
set_option linter.unusedSimpArgs false
set_option maxRecDepth 100000
set_option maxHeartbeats 16000000
noncomputable section
open Go.Value renaming slice->Ω,int->Ξ
open Option renaming none->Ψ,some->Δ
open Go.IntKind renaming i64->Θ
open Array renaming getElem?_eq_some_iff->Γ
open Go.Obj renaming cells->ω
open And renaming intro->ψ
open Go.Lib renaming hid->χ
open Go.RowKit.Below renaming refl->φ
open Go.World renaming cell?->υ
namespace Go.Proofs.YtbnmpafbfoaggaaGreatDoor
namespace Kn
open Go Go.RowKit Md
theorem J4{w:World}{b n:Nat}{arr:Array Value}{l:List Int}(h:w.heap[b]?=Δ (.cells arr 3 (0,0)))(hn:l.length=n)(ha:arr.toList=l.flatMap eP)(hs:arr.size=n*1)(hl:n<=1000):OI w 0 (Ω (Δ ⟨b,0,Ψ⟩) n n) l:=by subst hn;exact⟨by rw[<-ha];simpa using hs,.inr ⟨b,l.length,arr,rfl,Nat.zero_le _,h,Nat.le_refl _,by unfold maxLen;omega,hs,by rw[ha,<-hs,<-ha,show arr.size=arr.toList.length by simp,List.take_length]⟩⟩
theorem Rd{w:World}{b:Nat}{t:TypeId}{v0 v1 v2:Value}(h:w.heap[b]?=Δ (ω #[v0,v1,v2] t (0,0))):w.cell? ⟨b,0,Ψ⟩=Δ v0/\w.cell? ⟨b,1,Ψ⟩=Δ v1/\w.cell? ⟨b,2,Ψ⟩=Δ v2:=by refine⟨?_,?_,?_⟩<;>simp[υ,h]
theorem aY.snoc{w:World}{k:Int}{v:Value}{vs:List HV}:∀{l:List (Int×Value)} {cs:List HC},aY w l cs->eI w v vs->aY w (l++[(k,v)]) (cs++[(k,vs)])
 |[],[],h,hv=>aY.cons hv (aY.nil _)
 |[],_::_,h,hv=>by have:=h.1;simp at this
 |_::_,[],h,hv=>by have:=h.1;simp at this
 |(a,x)::l,(b,y)::cs,h,hv=>by obtain⟨e,hx⟩:=h.2 0 a x b y rfl rfl;subst e;exact aY.cons hx (aY.snoc ⟨by have:=h.1;simpa using this,fun i k v k' vs e1 e2=>h.2 (i+1) k v k' vs (by simpa using e1) (by simpa using e2)⟩ hv)
theorem Fs(w:World)(herr:np w):Calls aD.prog 10 #[] w fun e w'=>e=.returned (.bool true)/\Below w.heap.size w w':=by
 replace herr:=χ herr
 go_enter aD.func10,Tryz.ntmps10
 go_wp2_with fail
 refine m2 (oB _) fun v1 p1 qp1 hp1=>?_
 go_wp2_with fail
 refine m2 (Px _ v1 qp1.out) fun r1 p2 qp2 hp2=>?_
 go_wp2_with fail
 refine m2 (oB _) fun v2 p3 qp3 hp3=>?_
 go_wp2_with fail
 refine m2 (Py _ v2 qp3.out) fun pv p4 qp4 hp4=>?_
 obtain⟨ac,mc,ar,mr,aw,mw,ad,md,rfl⟩:=qp4.out.form
 go_wp2_with fail
 have⟨y3,hp5,zp5⟩:=DI p4 (ω #[.slice ac d9.cells.length mc,.slice ar d9.roots.length mr,.slice aw d9.aA.length mw,.slice ad d9.done.length md] 56);generalize p4.alloc _=p5 at y3 hp5 zp5⊢;refine m1 (kp _ 6) fun p6 KY=>?_
 go_wp2_with fail
 have⟨fp7,Rb,zp7⟩:=nt p6 [(1,6)] #[Ξ Θ 1,Ξ Θ 6] 1 rfl rfl (by omega);generalize p6.alloc _=p7 at fp7 Rb zp7⊢;refine m1 (dd _ (Δ ⟨p6.heap.size,0,Ψ⟩) 1 1) fun p8 Xa=>?_
 go_wp2_with fail
 refine m1 (dd _ Ψ 0 0) fun p9 KZ=>?_
 go_wp2_with fail
 refine m1 (kp _ 4) fun p10 PB=>?_
 go_wp2_with fail
 have⟨Xc,J5,Pb⟩:=nt p10 [(1,4)] #[Ξ Θ 1,Ξ Θ 4] 1 rfl rfl (by omega);generalize p10.alloc _=p11 at Xc J5 Pb⊢;refine m1 (dd _ (Δ ⟨p10.heap.size,0,Ψ⟩) 1 1) fun p12 PD=>?_
 go_wp2_with fail
 refine m1 (kp _ 5) fun p13 PE=>?_
 go_wp2_with fail
 have⟨Xd,J6,O6⟩:=nt p13 [(1,5)] #[Ξ Θ 1,Ξ Θ 5] 1 rfl rfl (by omega);generalize p13.alloc _=p14 at Xd J6 O6⊢;refine m1 (dd _ (Δ ⟨p13.heap.size,0,Ψ⟩) 1 1) fun p15 PF=>?_
 go_wp2_with fail
 refine m1 (mK _ 5) fun p16 Fj=>?_
 go_wp2_with fail
 have⟨Xe,J7,afN⟩:=nt p16 [(0,5)] #[Ξ Θ 0,Ξ Θ 5] 1 rfl rfl (by omega);generalize p16.alloc _=p17 at Xe J7 afN⊢;refine m1 (dd _ (Δ ⟨p16.heap.size,0,Ψ⟩) 1 1) fun p18 PG=>?_
 go_wp2_with fail
 refine m1 (kp _ 1) fun p19 Fk=>?_
 go_wp2_with fail
 have⟨Xh,J8,O7⟩:=nt p19 [(1,1)] #[Ξ Θ 1,Ξ Θ 1] 1 rfl rfl (by omega);generalize p19.alloc _=p20 at Xh J8 O7⊢;refine m1 (dd _ (Δ ⟨p19.heap.size,0,Ψ⟩) 1 1) fun p21 Fl=>?_
 go_wp2_with fail
 refine m1 (kp _ 4) fun p22 Fm=>?_
 go_wp2_with fail
 refine m2 (DH _ 1 4) fun b1 p23 afO Fo=>?_
 go_wp2_with fail
 have⟨Xi,J9,afP⟩:=WX p23 [(0,Ω (Δ ⟨p6.heap.size,0,Ψ⟩) 1 1),(0,Ω Ψ 0 0),(0,Ω (Δ ⟨p10.heap.size,0,Ψ⟩) 1 1),(0,Ω (Δ ⟨p13.heap.size,0,Ψ⟩) 1 1),(0,Ω (Δ ⟨p16.heap.size,0,Ψ⟩) 1 1),(0,Ω (Δ ⟨p19.heap.size,0,Ψ⟩) 1 1),(1,Ω (Δ ⟨b1,0,Ψ⟩) 1 1)] #[Ξ Θ 0,Ω (Δ ⟨p6.heap.size,0,Ψ⟩) 1 1,Ξ Θ 0,Ω Ψ 0 0,Ξ Θ 0,Ω (Δ ⟨p10.heap.size,0,Ψ⟩) 1 1,Ξ Θ 0,Ω (Δ ⟨p13.heap.size,0,Ψ⟩) 1 1,Ξ Θ 0,Ω (Δ ⟨p16.heap.size,0,Ψ⟩) 1 1,Ξ Θ 0,Ω (Δ ⟨p19.heap.size,0,Ψ⟩) 1 1,Ξ Θ 1,Ω (Δ ⟨b1,0,Ψ⟩) 1 1] 7 rfl rfl (by omega);generalize p23.alloc _=p24 at Xi J9 afP⊢;refine m1 (kp _ 3) fun p25 PI=>?_
 go_wp2_with fail
 refine m1 (kp _ 1) fun p26 PJ=>?_
 go_wp2_with fail
 refine m1 (mK _ 7) fun p27 PL=>?_
 go_wp2_with fail
 refine m1 (sY _) fun p28 PM=>?_
 go_wp2_with fail
 have⟨Xj,Cj,Xk⟩:=nt p28 [(1,3),(1,1),(0,7),(2,0)] #[Ξ Θ 1,Ξ Θ 3,Ξ Θ 1,Ξ Θ 1,Ξ Θ 0,Ξ Θ 7,Ξ Θ 2,Ξ Θ 0] 4 rfl rfl (by omega);generalize p28.alloc _=p29 at Xj Cj Xk⊢;have⟨y6,Ka,afQ⟩:=DI p29 (ω #[Ω (Δ ⟨p23.heap.size,0,Ψ⟩) 7 7,Ω (Δ ⟨p28.heap.size,0,Ψ⟩) 4 4,Ω Ψ 0 0,Ω Ψ 0 0] 56);generalize p29.alloc _=p30 at y6 Ka afQ⊢;refine m2 (oB _) fun v5 p31 afR PN=>?_
 go_wp2_with fail
 refine m2 (Pz _ v5 afR.out) fun xv p32 Xm PO=>?_
 obtain⟨xa0,xn0,xm0,xa1,xn1,xm1,xa2,xn2,xm2,xa3,xn3,xm3,xa4,xn4,xm4,xa5,xn5,xm5,rfl⟩:=Xm.out.six
 go_wp2_with fail
 have⟨y7,Kb,afS⟩:=DI p32 (ω #[.slice xa0 xn0 xm0,.slice xa1 xn1 xm1,.slice xa2 xn2 xm2,.slice xa3 xn3 xm3,.slice xa4 xn4 xm4,.slice xa5 xn5 xm5] 26);generalize p32.alloc _=p33 at y7 Kb afS⊢;refine m1 (eF _ 4) fun p34 PP=>?_
 go_wp2_with fail
 have⟨Xn,Kc,afT⟩:=nt p34 [(4,4)] #[Ξ Θ 4,Ξ Θ 4] 1 rfl rfl (by omega);generalize p34.alloc _=p35 at Xn Kc afT⊢;refine m1 (dd _ (Δ ⟨p34.heap.size,0,Ψ⟩) 1 1) fun p36 PQ=>?_
 go_wp2_with fail
 refine m1 (dd _ Ψ 0 0) fun p37 PR=>?_
 go_wp2_with fail
 refine m1 (eF _ 5) fun p38 PS=>?_
 go_wp2_with fail
 have⟨Xo,Kd,afU⟩:=nt p38 [(4,5)] #[Ξ Θ 4,Ξ Θ 5] 1 rfl rfl (by omega);generalize p38.alloc _=p39 at Xo Kd afU⊢;refine m1 (dd _ (Δ ⟨p38.heap.size,0,Ψ⟩) 1 1) fun p40 PU=>?_
 go_wp2_with fail
 refine m1 (eF _ 6) fun p41 PW=>?_
 go_wp2_with fail
 have⟨Xq,Ke,afV⟩:=nt p41 [(4,6)] #[Ξ Θ 4,Ξ Θ 6] 1 rfl rfl (by omega);generalize p41.alloc _=p42 at Xq Ke afV⊢;refine m1 (dd _ (Δ ⟨p41.heap.size,0,Ψ⟩) 1 1) fun p43 PY=>?_
 go_wp2_with fail
 refine m1 (eF _ 5) fun p44 PZ=>?_
 go_wp2_with fail
 refine m2 (DH _ 4 5) fun b2 p45 afW P1=>?_
 go_wp2_with fail
 refine m1 (mK _ 5) fun p46 P2=>?_
 go_wp2_with fail
 have⟨Xr,Kf,afX⟩:=nt p46 [(0,5)] #[Ξ Θ 0,Ξ Θ 5] 1 rfl rfl (by omega);generalize p46.alloc _=p47 at Xr Kf afX⊢;refine m1 (dd _ (Δ ⟨p46.heap.size,0,Ψ⟩) 1 1) fun p48 P3=>?_
 go_wp2_with fail
 refine m1 (eF _ 1) fun p49 P4=>?_
 go_wp2_with fail
 have⟨Xs,Kg,afY⟩:=nt p49 [(4,1)] #[Ξ Θ 4,Ξ Θ 1] 1 rfl rfl (by omega);generalize p49.alloc _=p50 at Xs Kg afY⊢;refine m1 (dd _ (Δ ⟨p49.heap.size,0,Ψ⟩) 1 1) fun p51 P5=>?_
 go_wp2_with fail
 have⟨Xt,Kh,afZ⟩:=WX p51 [(0,Ω (Δ ⟨p34.heap.size,0,Ψ⟩) 1 1),(0,Ω Ψ 0 0),(0,Ω (Δ ⟨p38.heap.size,0,Ψ⟩) 1 1),(0,Ω (Δ ⟨p41.heap.size,0,Ψ⟩) 1 1),(1,Ω (Δ ⟨b2,0,Ψ⟩) 1 1),(0,Ω (Δ ⟨p46.heap.size,0,Ψ⟩) 1 1),(0,Ω (Δ ⟨p49.heap.size,0,Ψ⟩) 1 1)] #[Ξ Θ 0,Ω (Δ ⟨p34.heap.size,0,Ψ⟩) 1 1,Ξ Θ 0,Ω Ψ 0 0,Ξ Θ 0,Ω (Δ ⟨p38.heap.size,0,Ψ⟩) 1 1,Ξ Θ 0,Ω (Δ ⟨p41.heap.size,0,Ψ⟩) 1 1,Ξ Θ 1,Ω (Δ ⟨b2,0,Ψ⟩) 1 1,Ξ Θ 0,Ω (Δ ⟨p46.heap.size,0,Ψ⟩) 1 1,Ξ Θ 0,Ω (Δ ⟨p49.heap.size,0,Ψ⟩) 1 1] 7 rfl rfl (by omega);generalize p51.alloc _=p52 at Xt Kh afZ⊢;refine m1 (eF _ 3) fun p53 P6=>?_
 go_wp2_with fail
 refine m1 (eF _ 1) fun p54 P7=>?_
 go_wp2_with fail
 refine m1 (mK _ 7) fun p55 P8=>?_
 go_wp2_with fail
 refine m1 (sY _) fun p56 P9=>?_
 go_wp2_with fail
 have⟨Xu,Ki,Xv⟩:=nt p56 [(4,3),(4,1),(0,7),(2,0)] #[Ξ Θ 4,Ξ Θ 3,Ξ Θ 4,Ξ Θ 1,Ξ Θ 0,Ξ Θ 7,Ξ Θ 2,Ξ Θ 0] 4 rfl rfl (by omega);generalize p56.alloc _=p57 at Xu Ki Xv⊢;have⟨y9,Kj,af0⟩:=DI p57 (ω #[Ω Ψ 0 0,Ω (Δ ⟨p51.heap.size,0,Ψ⟩) 7 7,Ω (Δ ⟨p56.heap.size,0,Ψ⟩) 4 4,Ω Ψ 0 0,Ω Ψ 0 0,Ω Ψ 0 0] 26);generalize p57.alloc _=p58 at y9 Kj af0⊢;refine m1 (Fr _) fun p59 Qa=>?_
 go_wp2_with fail
 have⟨Xw,Kk,af1⟩:=alI p59 [0,2] #[Ξ Θ 0,Ξ Θ 2] 2 rfl rfl (by omega);generalize p59.alloc _=p60 at Xw Kk af1⊢;have af2:=φ p60.heap.size p60;have af3:=bx Kk af2;have af4:=bx Qa af3;have af5:=bx Kj af4;have af6:=bx Ki af5;have af7:=bx P9 af6;have af8:=bx P8 af7;have af9:=bx P7 af8;have aga:=bx P6 af9;have agb:=bx Kh aga;have agc:=bx P5 agb;have agd:=bx Kg agc;have age:=bx P4 agd;have agf:=bx P3 age;have agh:=bx Kf agf;have agi:=bx P2 agh;have agj:=bx P1 agi;have agk:=bx PZ agj;have agl:=bx PY agk;have agm:=bx Ke agl;have agn:=bx PW agm;have ago:=bx PU agn;have agp:=bx Kd ago;have agq:=bx PS agp;have agr:=bx PR agq;have ags:=bx PQ agr;have agt:=bx Kc ags;have agu:=bx PP agt;have agv:=bx Kb agu;have agw:=bx PO agv;have agx:=bx PN agw;have agy:=bx Ka agx;have agz:=bx Cj agy;have Pc:=bx PM agz;have agA:=bx PL Pc;have agB:=bx PJ agA;have Pd:=bx PI agB;have Pe:=bx J9 Pd;have Pf:=bx Fo Pe;have Pg:=bx Fm Pf;have Pi:=bx Fl Pg;have Pj:=bx J8 Pi;have Pk:=bx Fk Pj;have Pl:=bx PG Pk;have Pm:=bx J7 Pl;have Pn:=bx Fj Pm;have Po:=bx PF Pn;have agC:=bx J6 Po;have Pp:=bx PE agC;have Pq:=bx PD Pp;have Pr:=bx J5 Pq;have dp9:=bx PB Pr;have dp8:=bx KZ dp9;have dp7:=bx Xa dp8;have dp6:=bx Rb dp7;have dp5:=bx KY dp6;have dp4:=bx hp5 dp5;have dp3:=bx hp4 dp4;have dp2:=bx hp3 dp3;have dp1:=bx hp2 dp2;have dw:=bx hp1 dp1;have iv1:=n9.below dp2 qp2.out;have iv2:=OI.reads Xw.out;refine m1 (JX _ _ _ [0,2] iv1 iv2) fun p61 Xx=>?_
 clear iv1 iv2;have agD:=φ p61.heap.size p61;have agE:=bx Xx agD;have agF:=bx Kk agE;have agG:=bx Qa agF;have agH:=bx Kj agG;have agI:=bx Ki agH;have agJ:=bx P9 agI;have agK:=bx P8 agJ;have agL:=bx P7 agK;have agM:=bx P6 agL;have agN:=bx Kh agM;have agO:=bx P5 agN;have agP:=bx Kg agO;have agQ:=bx P4 agP;have agR:=bx P3 agQ;have agS:=bx Kf agR;have agT:=bx P2 agS;have agU:=bx P1 agT;have agV:=bx PZ agU;have agW:=bx PY agV;have agX:=bx Ke agW;have agY:=bx PW agX;have agZ:=bx PU agY;have ag0:=bx Kd agZ;have ag1:=bx PS ag0;have ag2:=bx PR ag1;have ag4:=bx PQ ag2;have ag5:=bx Kc ag4;have ag6:=bx PP ag5;have ag7:=bx Kb ag6;have ag8:=bx PO ag7;have Xy:=bx PN ag8;have JY:=bx Ka Xy;have Ps:=bx Cj JY;have Pt:=bx PM Ps;have Pu:=bx PL Pt;have Pv:=bx PJ Pu;have Ce:=bx PI Pv;have Ch:=bx J9 Ce;have Fp:=bx Fo Ch;have ag9:=bx Fm Fp;have JZ:=bx Fl ag9;have O8:=bx J8 JZ;have aha:=bx Fk O8;have Ci:=bx PG aha;have ahb:=bx J7 Ci;have Fq:=bx Fj ahb;have J0:=bx PF Fq;have O9:=bx J6 J0;have cp12:=bx PE O9;have Xz:=bx PD cp12;have cp10:=bx J5 Xz;have cp9:=bx PB cp10;have cp8:=bx KZ cp9;have Rc:=bx Xa cp8;have cp6:=bx Rb Rc;have cp5:=bx KY cp6;have cp4:=bx hp5 cp5;have cp3:=bx hp4 cp4;have cp2:=bx hp3 cp3;have cp1:=bx hp2 cp2;have cw:=bx hp1 cp1;obtain⟨k0,k1,k2,k3⟩:=fZ ((cp5.block _ (Γ.1 y3.out).1).trans y3.out);obtain⟨j0,j1,j2,j3⟩:=fZ ((Xy.block _ (Γ.1 y6.out).1).trans y6.out);rw[Xk]at j0 j1 j2 j3
 go_wp2_with fail
 have hg1:=tH.below cp4 qp4.out;have hg2:tH p61 (.agg #[Ω (Δ ⟨p23.heap.size,0,Ψ⟩) 7 7,Ω (Δ ⟨p28.heap.size,0,Ψ⟩) 4 4,Ω Ψ 0 0,Ω Ψ 0 0]) d9:=⟨_,_,_,_,rfl,OC.reads (OC.below Xi.out Ce) (aY.cons (k:=0) (OV.reads (OV.below fp7.out Rc)) (aY.cons (k:=0) dv (aY.cons (k:=0) (OV.reads (OV.below Xc.out Xz)) (aY.cons (k:=0) (OV.reads (OV.below Xd.out J0)) (aY.cons (k:=0) (OV.reads (OV.below Xe.out Ci)) (aY.cons (k:=0) (OV.reads (OV.below Xh.out JZ)) (aY.cons (k:=1) (eI.below Ch afO.out) (aY.nil _)))))))),OV.reads (OV.below Xj.out JY),isn _,isn _⟩;refine m1 (J3 _ _ _ d9 hg1 hg2) fun p62 ahc=>?_
 clear hg1 hg2 k0 k1 k2 k3 j0 j1 j2 j3;have ahd:=φ p62.heap.size p62;have ahe:=bx ahc ahd;have ahf:=bx Xx ahe;have ahg:=bx Kk ahf;have XA:=bx Qa ahg;have XB:=bx Kj XA;have ahh:=bx Ki XB;have ahi:=bx P9 ahh;have ahj:=bx P8 ahi;have ahk:=bx P7 ahj;have XC:=bx P6 ahk;have ahl:=bx Kh XC;have XD:=bx P5 ahl;have ahm:=bx Kg XD;have ahn:=bx P4 ahm;have XE:=bx P3 ahn;have aho:=bx Kf XE;have XF:=bx P2 aho;have ahp:=bx P1 XF;have ahq:=bx PZ ahp;have XG:=bx PY ahq;have ahr:=bx Ke XG;have ahs:=bx PW ahr;have XH:=bx PU ahs;have aht:=bx Kd XH;have ahu:=bx PS aht;have ahv:=bx PR ahu;have XI:=bx PQ ahv;have ahw:=bx Kc XI;have aaa:=bx PP ahw;have aab:=bx Kb aaa;have ahx:=bx PO aab;have ahy:=bx PN ahx;have ahz:=bx Ka ahy;have ahA:=bx Cj ahz;have ahB:=bx PM ahA;have ahC:=bx PL ahB;have ahD:=bx PJ ahC;have ahE:=bx PI ahD;have ahF:=bx J9 ahE;have ahG:=bx Fo ahF;have ahH:=bx Fm ahG;have ahI:=bx Fl ahH;have ahJ:=bx J8 ahI;have ahK:=bx Fk ahJ;have ahL:=bx PG ahK;have ahM:=bx J7 ahL;have ahN:=bx Fj ahM;have ahO:=bx PF ahN;have ahP:=bx J6 ahO;have ahQ:=bx PE ahP;have ahR:=bx PD ahQ;have ahS:=bx J5 ahR;have ep9:=bx PB ahS;have ep8:=bx KZ ep9;have ep7:=bx Xa ep8;have ep6:=bx Rb ep7;have ep5:=bx KY ep6;have ep4:=bx hp5 ep5;have ep3:=bx hp4 ep4;have ep2:=bx hp3 ep3;have ep1:=bx hp2 ep2;have ew:=bx hp1 ep1;obtain⟨k0,k1,k2,k3,k4,k5⟩:=lG ((aaa.block _ (Γ.1 y7.out).1).trans y7.out);obtain⟨j0,j1,j2,j3,j4,j5⟩:=lG ((XA.block _ (Γ.1 y9.out).1).trans y9.out);rw[Xv]at j0 j1 j2 j3 j4 j5
 go_wp2_with fail
 have hg1:=GV.below aab Xm.out;have hg2:GV p62 (.agg #[Ω Ψ 0 0,Ω (Δ ⟨p51.heap.size,0,Ψ⟩) 7 7,Ω (Δ ⟨p56.heap.size,0,Ψ⟩) 4 4,Ω Ψ 0 0,Ω Ψ 0 0,Ω Ψ 0 0]) sX:=⟨_,_,_,_,_,_,rfl,csn _,OC.reads (OC.below Xt.out XC) (aY.cons (k:=0) (OV.reads (OV.below Xn.out XI)) (aY.cons (k:=0) dv (aY.cons (k:=0) (OV.reads (OV.below Xo.out XH)) (aY.cons (k:=0) (OV.reads (OV.below Xq.out XG)) (aY.cons (k:=1) (eI.below XF afW.out) (aY.cons (k:=0) (OV.reads (OV.below Xr.out XE)) (aY.cons (k:=0) (OV.reads (OV.below Xs.out XD)) (aY.nil _)))))))),OV.reads (OV.below Xu.out XB),dv,dv,isn _⟩;refine(NU _ _ _ sX hg1 hg2).mono ?_;rintro e p63 ⟨rfl,hp63⟩;have hA:=χ (ew.trans (hp63.mono ew.size));clear hg1 hg2 k0 k1 k2 k3 k4 k5 j0 j1 j2 j3 j4 j5 hp63;clear hp1 qp1 hp2 qp2 hp3 qp3 hp4 qp4 hp5 zp5 KY Rb fp7 zp7 Xa KZ PB J5 Xc Pb PD PE J6 Xd O6 PF Fj J7 Xe afN PG Fk J8 Xh O7 Fl Fm Fo afO J9 Xi afP PI PJ PL PM Cj Xj Xk Ka afQ PN afR PO Xm Kb afS PP Kc Xn afT PQ PR PS Kd Xo afU PU PW Ke Xq afV PY PZ P1 afW P2 Kf Xr afX P3 P4 Kg Xs afY P5 Kh Xt afZ P6 P7 P8 P9 Ki Xu Xv Kj af0 Qa Kk Xw af1 Xx ahc cw cp1 cp2 cp3 cp4 cp5 cp6 Rc cp8 cp9 cp10 Xz cp12 O9 J0 Fq ahb Ci aha O8 JZ ag9 Fp Ch Ce Pv Pu Pt Ps JY Xy ag8 ag7 ag6 ag5 ag4 ag2 ag1 ag0 agZ agY agX agW agV agU agT agS agR agQ agP agO agN agM agL agK agJ agI agH agG agF agE agD dw dp1 dp2 dp3 dp4 dp5 dp6 dp7 dp8 dp9 Pr Pq Pp agC Po Pn Pm Pl Pk Pj Pi Pg Pf Pe Pd agB agA Pc agz agy agx agw agv agu agt ags agr agq agp ago agn agm agl agk agj agi agh agf age agd agc agb aga af9 af8 af7 af6 af5 af4 af3 af2 ew ep1 ep2 ep3 ep4 ep5 ep6 ep7 ep8 ep9 ahS ahR ahQ ahP ahO ahN ahM ahL ahK ahJ ahI ahH ahG ahF ahE ahD ahC ahB ahA ahz ahy ahx aab aaa ahw XI ahv ahu aht XH ahs ahr XG ahq ahp XF aho XE ahn ahm XD ahl XC ahk ahj ahi ahh XB XA ahg ahf ahe ahd y3 y6 y7 y9
 go_wp2_with fail
 refine m2 (oB _) fun v9 p64 ahT Qb=>?_
 go_wp2_with fail
 refine m2 (aom _ v9 ahT.out) fun yv g aac Qc=>?_
 obtain⟨ya0,yn0,ym0,ya1,yn1,ym1,ya2,yn2,ym2,ya3,yn3,ym3,ya4,yn4,ym4,ya5,yn5,ym5,rfl⟩:=aac.out.six
 go_wp2_with fail
 have⟨yA,Kl,aad⟩:=DI g (ω #[.slice ya0 yn0 ym0,.slice ya1 yn1 ym1,.slice ya2 yn2 ym2,.slice ya3 yn3 ym3,.slice ya4 yn4 ym4,.slice ya5 yn5 ym5] 26);generalize g.alloc _=p66 at yA Kl aad⊢;have⟨yB,Km,ahU⟩:=DI p66 (ω #[Ξ Θ 1,Ξ Θ 0] 50);generalize p66.alloc _=p67 at yB Km ahU⊢;refine m2 (oB _) fun v10 p68 ahV Qd=>?_
 go_wp2_with fail
 have M:=φ p68.heap.size p68;have B:=bx Qd M;have D:=bx Km B;have E:=bx Kl D;have F:=bx Qc E;have Qe:=bx Qb F;refine(J2 _ v10 ahV.out (np.below herr.out (hA.out.trans (Qe.mono hA.out.size)))).mono ?_;rintro e p69 ⟨⟨x10,y10,rfl⟩,Ko⟩;replace Ko:=χ Ko
 go_wp2_with fail
 refine(JW _).mono ?_;rintro e f ⟨bn,bo,r,bm,ln,wa,rfl,G1,G2,G3,G4,G5,G6,G7⟩;have asy:=χ (G6.trans (G7.mono G6.size));have GG:=χ (ψ G1 (ψ G2 (ψ G3 (ψ G4 (ψ G5 (ψ G6 G7))))));clear G1 G2 G3 G4 G5 G6 G7
 go_wp2_with fail
 have⟨yC,Kp,aoo⟩:=DI f (ω #[Ω (Δ ⟨bn,0,Ψ⟩) 4 4,Ω (Δ ⟨bo,0,Ψ⟩) 3 3,Ω (Δ ⟨r,0,Ψ⟩) 4 4,Ω Ψ 0 0,Ω Ψ 0 0,Ω (Δ ⟨bm,0,Ψ⟩) 2 2] 26);generalize f.alloc _=p71 at yC Kp aoo⊢
 go_wp2_with fail
 obtain⟨G1,G2,G3,G4,G5,G6,G7⟩:=GG.out;obtain⟨t0,t1,t2,t3,t4,t5⟩:=lG yC.out;have tl:=az t0;have hln:ln.length=4:=G2.1;have ahW:=OC.below (OC.below G1 G7) Kp.out;have Kq:=OV.below G4 Kp.out;have Kr:=OI.below G5 Kp.out;have hag:=G7.size;have hpa:=G6.size;have J:Below wa.heap.size wa p71:=G7.trans (Kp.out.mono hag);have tf:=cD (i:=0) yC.out;have HK:=χ (ψ G2 (ψ G3 (ψ Kq (ψ Kr (ψ J G6)))));clear G1 G2 G3 G4 G5 G6 G7 t1 t2 t3 t4 t5 Kq Kr J;refine Rg.aaH 2 3 (fun x=>x.cell? ⟨f.heap.size,0,Ψ⟩=Δ (Ω (Δ ⟨bn,0,Ψ⟩) 4 4)) (by kernel_rfl) (by kernel_rfl) (fun c a d v w h=>by cases d<;>exact h) t0 ?_;simp only[Nat.reduceAdd,List.take_succ_cons,List.take_zero,List.drop_succ_cons,List.drop_zero]
 iterate 2
  (refine Rg.fp.step (v:=?_) (by rfl) (fun u hu=>?_) ?_
   rotate_left
   (go_simp
    rfl))
 refine Rg.fp.nil (Rg.pA.succ ?_);simp only[Act.put,List.setIfInBounds_toArray,List.set_cons_zero,List.set_cons_succ];refine wpOp_step rfl (fun K hK=>?_);go_simp;refine(dd _ Ψ 0 0).mono ?_;rintro e wr ⟨rfl,hr⟩;have s1:Below p71.heap.size p71 wr:=(φ _ _).drew.trans hr;have u0:=(s1.cell (p:=⟨f.heap.size,0,Ψ⟩) tl).trans t0;refine hK _ _ ⟨u0,Rg.pA.succ ?_⟩;clear hK K;refine wpOp_step rfl (fun K hK=>?_);go_simp;refine hK _ _ ⟨dB u0,Rg.pA.succ ?_⟩;clear hK K;refine wpOp_step rfl (fun K hK=>?_);have hRC:RC (wr.alloc (ω #[Ξ Θ 0,Ω Ψ 0 0] 76)) p69.heap.size (Ω (Δ ⟨bn,0,Ψ⟩) ln.length 4) ln:=by rw[hln];exact OC.rc (OC.below (OC.below ahW s1) (af wr _))
 refine aX rfl _ _ 22 (by rfl) (Ω (Δ ⟨bn,0,Ψ⟩) 4 4) (Ω (Δ ⟨wr.heap.size,0,Ψ⟩) 1 1) (by rfl) (by rfl) _ (mJ (k:=0) (x:=Ω Ψ 0 0) hln hRC (heap_alloc_new wr _) (by rfl) (by omega)) ?_;intro v' ws h2;obtain⟨hoc,hbs,gg,mg,rfl⟩:=h2;have s2:Below p71.heap.size p71 ws:=s1.trans (((af wr _).mono s1.size).trans (hbs.mono (by have:=s1.size;simp;omega)));have u1:=(s2.cell (p:=⟨f.heap.size,0,Ψ⟩) tl).trans t0;have uf:=(s2.frozen (p:=⟨f.heap.size,0,Ψ⟩) tl).trans tf;refine hK _ _ ⟨u1,Rg.pA.zero ?_⟩;clear hK K;have ysz:=s1.size;have HS:=χ (ψ hoc (ψ s2 ysz));clear hoc hbs hRC ahW hr s1 u0 t0 tf s2 ysz
 go_wp2_with fail
 obtain⟨hoc,s2,ysz⟩:=HS.out;obtain⟨G2,G3,Kq,Kr,J,G6⟩:=HK.out;have yw:=(s2.block f.heap.size tl).trans yC.out;have yX:=heap_setCell_same (i:=0) (v:=Ω (Δ ⟨gg,0,Ψ⟩) 5 mg) yw;have hne:∀k:Nat,k≠f.heap.size->(ws.setCell ⟨f.heap.size,0,Ψ⟩ (Ω (Δ ⟨gg,0,Ψ⟩) (4+1) mg)).heap[k]?=ws.heap[k]?:=fun k h=>aq h
 have oX:=bp hoc yw (by decide) hne;have vX:=bp (OV.below Kq s2) yw (by decide) hne;have iX:=bp (OI.below Kr s2) yw (by decide) hne;have bX:=(J.trans (s2.mono J.size)).setCell (p:=⟨f.heap.size,0,Ψ⟩) hag (Ω (Δ ⟨gg,0,Ψ⟩) (4+1) mg);have lX:ws.heap.size=(ws.setCell ⟨f.heap.size,0,Ψ⟩ (Ω (Δ ⟨gg,0,Ψ⟩) (4+1) mg)).heap.size:=by simp
 generalize ws.setCell ⟨f.heap.size,0,Ψ⟩ (Ω (Δ ⟨gg,0,Ψ⟩) (4+1) mg)=wX at yX oX vX iX bX lX⊢;obtain⟨x0,x1,x2,x3,x4,x5⟩:=lG yX;obtain⟨r2a,r2b,r2f,r2B,r2l⟩:=OV.at_ (k:=2) (p:=0) (q:=7) vX rfl;have ahY:=r2f (2*2);have ahZ:=r2f (2*2+1);have HX:=χ (ψ yX (ψ oX (ψ vX (ψ iX (ψ bX lX)))));have hnX:¬r=f.heap.size:=fun e=>by obtain⟨cur,hc⟩:=OV.block vX rfl;rw[e,yX]at hc;cases hc
 have xl:=az x2;clear yX oX vX iX bX lX x0 x1 x3 x4 x5 hne yw hoc s2 Kq Kr J u1 uf r2f
 go_region_held3 (fun x=>x.cell? ⟨f.heap.size,2,Ψ⟩=Δ (Ω (Δ ⟨r,0,Ψ⟩) 4 4)) ((repeat (first|with_reducible assumption|with_reducible refine dO ?_|with_reducible refine da hnX ?_)))
  ((go_at_call 61;(with_reducible refine(i4 _ 4).mono ?_);rintro e wY ⟨rfl,hY⟩;have zY:Below wX.heap.size wX wY:=(φ _ _).drew.trans hY;have k2:=(zY.cell (p:=⟨f.heap.size,2,Ψ⟩) xl).trans x2;have ka:=(zY.cell (p:=⟨r,2*2,Ψ⟩) r2l).trans r2a;have kb:=(zY.cell (p:=⟨r,2*2+1,Ψ⟩) r2l).trans r2b;have kf:=(zY.frozen (p:=⟨r,2*2,Ψ⟩) r2l).trans ahY;have kg:=(zY.frozen (p:=⟨r,2*2+1,Ψ⟩) r2l).trans ahZ))
 clear k2 ka kb kf kg ahY ahZ x2;obtain⟨yX,oX,vX,iX,bX,lX⟩:=HX.out;have yY:=(zY.block f.heap.size xl).trans yX;have vY:=OV.below vX zY;have vZ:OV ((wY.setCell ⟨r,4,Ψ⟩ (Ξ Θ 3)).setCell ⟨r,5,Ψ⟩ (Ξ Θ 4)) wa.heap.size (Ω (Δ ⟨r,0,Ψ⟩) 4 4) [(3,0),(4,1),(3,4),(2,0)]:=OV.set (k:=2) (x:=(3,4)) vY (by decide);obtain⟨asB,hcb⟩:=OV.block vY rfl;have Z:∀k:Nat,k≠r->((wY.setCell ⟨r,4,Ψ⟩ (Ξ Θ 3)).setCell ⟨r,5,Ψ⟩ (Ξ Θ 4)).heap[k]?=wY.heap[k]?:=fun k h=>cr h
 have yZ:=(Z f.heap.size (Ne.symm hnX)).trans yY;have oZ:=bp (OC.below oX zY) hcb (by decide) Z;have iZ:=bp (OI.below iX zY) hcb (by decide) Z;have bZ:=((bX.trans (zY.mono bX.size)).setCell (p:=⟨r,4,Ψ⟩) r2B (Ξ Θ 3)).setCell (p:=⟨r,5,Ψ⟩) r2B (Ξ Θ 4);generalize ((wY.setCell ⟨r,4,Ψ⟩ (Ξ Θ 3)).setCell ⟨r,5,Ψ⟩ (Ξ Θ 4))=wZ at vZ yZ oZ iZ bZ Z⊢;have hwZ:=χ (G6.trans (bZ.mono hpa));have hm:=χ (show GV wZ (.agg #[Ω (Δ ⟨gg,0,Ψ⟩) 5 mg,Ω (Δ ⟨bo,0,Ψ⟩) 3 3,Ω (Δ ⟨r,0,Ψ⟩) 4 4,Ω Ψ 0 0,Ω Ψ 0 0,Ω (Δ ⟨bm,0,Ψ⟩) 2 2]) J1 from⟨_,_,_,_,_,_,rfl,OC.reads (show OC _ _ _ _ from oZ) (aY.snoc (aY.below bZ G2) dv),G3.below bZ,OV.reads vZ,dv,dv,OI.reads (show OI _ _ _ _ from iZ)⟩);clear vZ oZ iZ bZ Z vY hcb yY yX oX vX iX bX lX HX HK HS GG G2 G3 G6 zY hY r2B r2l hnX xl hag hpa hln;have yZ':=χ yZ;clear yZ
 go_wp2_with fail
 have cwZ:=φ wZ.heap.size wZ;have Qf:=bx hwZ cwZ;have M:=bx Ko Qf;have B:=bx Qd M;have D:=bx Km B;have E:=bx Kl D;have F:=bx Qc E;have Qe:=bx Qb F;obtain⟨k0,k1,k2,k3,k4,k5⟩:=lG ((D.block _ (Γ.1 yA.out).1).trans yA.out);have yB':=(B.block _ (Γ.1 yB.out).1).trans yB.out;rw[aad]at yB';have l0:wZ.cell? ⟨g.heap.size+1,0,Ψ⟩=Δ (Ξ Θ 1):=by simp[υ,yB']
 have l1:wZ.cell? ⟨g.heap.size+1,1,Ψ⟩=Δ (Ξ Θ 0):=by simp[υ,yB']
 obtain⟨j0,j1,j2,j3,j4,j5⟩:=lG yZ'.out;clear yB';have hneq:∀W:World,(binOp .neq 50 (.agg #[Ξ Θ 1,Ξ Θ 0]) (.agg #[Ξ Θ 1,Ξ Θ 0])).run aD.prog W=.ok (.bool false) W:=fun W=>nc 1 0 W
 go_region_held3 (fun x=>x.cell? ⟨g.heap.size,0,Ψ⟩=Δ (.slice ya0 yn0 ym0)/\x.cell? ⟨g.heap.size,1,Ψ⟩=Δ (.slice ya1 yn1 ym1)/\x.cell? ⟨g.heap.size,2,Ψ⟩=Δ (.slice ya2 yn2 ym2)/\x.cell? ⟨g.heap.size,3,Ψ⟩=Δ (.slice ya3 yn3 ym3)/\x.cell? ⟨g.heap.size,4,Ψ⟩=Δ (.slice ya4 yn4 ym4)/\x.cell? ⟨g.heap.size,5,Ψ⟩=Δ (.slice ya5 yn5 ym5)/\x.cell? ⟨g.heap.size+1,0,Ψ⟩=Δ (Ξ Θ 1)/\x.cell? ⟨g.heap.size+1,1,Ψ⟩=Δ (Ξ Θ 0)/\x.cell? ⟨f.heap.size,0,Ψ⟩=Δ (Ω (Δ ⟨gg,0,Ψ⟩) 5 mg)/\x.cell? ⟨f.heap.size,1,Ψ⟩=Δ (Ω (Δ ⟨bo,0,Ψ⟩) 3 3)/\x.cell? ⟨f.heap.size,2,Ψ⟩=Δ (Ω (Δ ⟨r,0,Ψ⟩) 4 4)/\x.cell? ⟨f.heap.size,3,Ψ⟩=Δ (Ω Ψ 0 0)/\x.cell? ⟨f.heap.size,4,Ψ⟩=Δ (Ω Ψ 0 0)/\x.cell? ⟨f.heap.size,5,Ψ⟩=Δ (Ω (Δ ⟨bm,0,Ψ⟩) 2 2)) ((refine⟨?_,?_,?_,?_,?_,?_,?_,?_,?_,?_,?_,?_,?_,?_⟩<;>(repeat (first|with_reducible assumption|with_reducible refine dO ?_))))
  (first
    |(go_at_call 54;(with_reducible refine(kp _ 0).mono ?_);rintro e wq ⟨rfl,hq⟩;have m:Below wZ.heap.size wZ wq:=(φ _ _).drew.trans hq;have ak0:=(m.cell (p:=⟨g.heap.size,0,Ψ⟩) (az k0)).trans k0;have ak1:=(m.cell (p:=⟨g.heap.size,1,Ψ⟩) (az k1)).trans k1;have ak2:=(m.cell (p:=⟨g.heap.size,2,Ψ⟩) (az k2)).trans k2;have ak3:=(m.cell (p:=⟨g.heap.size,3,Ψ⟩) (az k3)).trans k3;have ak4:=(m.cell (p:=⟨g.heap.size,4,Ψ⟩) (az k4)).trans k4;have ak5:=(m.cell (p:=⟨g.heap.size,5,Ψ⟩) (az k5)).trans k5;have al0:=(m.cell (p:=⟨g.heap.size+1,0,Ψ⟩) (az l0)).trans l0;have al1:=(m.cell (p:=⟨g.heap.size+1,1,Ψ⟩) (az l1)).trans l1;have aj0:=(m.cell (p:=⟨f.heap.size,0,Ψ⟩) (az j0)).trans j0;have aj1:=(m.cell (p:=⟨f.heap.size,1,Ψ⟩) (az j1)).trans j1;have aj2:=(m.cell (p:=⟨f.heap.size,2,Ψ⟩) (az j2)).trans j2;have aj3:=(m.cell (p:=⟨f.heap.size,3,Ψ⟩) (az j3)).trans j3;have aj4:=(m.cell (p:=⟨f.heap.size,4,Ψ⟩) (az j4)).trans j4;have aj5:=(m.cell (p:=⟨f.heap.size,5,Ψ⟩) (az j5)).trans j5)
    |(go_at_call 26;(with_reducible refine(NU _ _ _ J1 (GV.below m (GV.below E aac.out)) (GV.below m hm.out)).mono ?_);rintro e wp ⟨rfl,hp⟩;have zp:Below wZ.heap.size wZ wp:=m.trans (hp.mono m.size);have bk0:=(zp.cell (p:=⟨g.heap.size,0,Ψ⟩) (az k0)).trans k0;have bk1:=(zp.cell (p:=⟨g.heap.size,1,Ψ⟩) (az k1)).trans k1;have bk2:=(zp.cell (p:=⟨g.heap.size,2,Ψ⟩) (az k2)).trans k2;have bk3:=(zp.cell (p:=⟨g.heap.size,3,Ψ⟩) (az k3)).trans k3;have bk4:=(zp.cell (p:=⟨g.heap.size,4,Ψ⟩) (az k4)).trans k4;have bk5:=(zp.cell (p:=⟨g.heap.size,5,Ψ⟩) (az k5)).trans k5;have bl0:=(zp.cell (p:=⟨g.heap.size+1,0,Ψ⟩) (az l0)).trans l0;have bl1:=(zp.cell (p:=⟨g.heap.size+1,1,Ψ⟩) (az l1)).trans l1;have bj0:=(zp.cell (p:=⟨f.heap.size,0,Ψ⟩) (az j0)).trans j0;have bj1:=(zp.cell (p:=⟨f.heap.size,1,Ψ⟩) (az j1)).trans j1;have bj2:=(zp.cell (p:=⟨f.heap.size,2,Ψ⟩) (az j2)).trans j2;have bj3:=(zp.cell (p:=⟨f.heap.size,3,Ψ⟩) (az j3)).trans j3;have bj4:=(zp.cell (p:=⟨f.heap.size,4,Ψ⟩) (az j4)).trans j4;have bj5:=(zp.cell (p:=⟨f.heap.size,5,Ψ⟩) (az j5)).trans j5))
 have hwp:=χ zp;clear k0 ak0 bk0 k1 ak1 bk1 k2 ak2 bk2 k3 ak3 bk3 k4 ak4 bk4 k5 ak5 bk5 l0 al0 bl0 l1 al1 bl1 j0 aj0 bj0 j1 aj1 bj1 j2 aj2 bj2 j3 aj3 bj3 j4 aj4 bj4 j5 aj5 bj5 hneq zp hp m hq hm
 go_wp2_with fail
 have cwp:=φ wp.heap.size wp;have cwZ:=bx hwp cwp;have Qf:=bx hwZ cwZ;have M:=bx Ko Qf;have B:=bx Qd M;have D:=bx Km B;have E:=bx Kl D;have F:=bx Qc E;have Qe:=bx Qb F;have hA2:=χ (hA.out.trans (Qe.mono hA.out.size));clear yZ';clear Qb ahT Qc aac Kl aad Km ahU Qd ahV Ko hwZ hwp F E D B M Qf cwZ cwp yA yB yC;clear hA;refine m2 (oB _) fun v16 p72 ah0 Qg=>?_
 go_wp2_with fail
 have⟨aae,H,aov⟩:=DI p72 (ω #[Ξ Θ 4,Ξ Θ 0,Ξ Θ 2,Ξ Θ 0] 44);generalize p72.alloc _=p73 at aae H aov⊢;refine m2 (DJ _ p72.heap.size 4 0 2 0 aae.out) fun r16 p74 ah1 Kt=>?_
 go_wp2_with fail
 refine(afL _ v16 r16 (GV.below Kt.out (GV.below H.out ah0.out)) ah1.out).mono ?_;rintro e p75 ⟨⟨zv,rv,rfl,Qh,Qi⟩,L⟩;obtain⟨ua0,un0,um0,ua1,un1,um1,ua2,un2,um2,ua3,un3,um3,ua4,un4,um4,ua5,un5,um5,rfl⟩:=Qh.six;replace L:=χ L;replace Qh:=χ Qh;replace Qi:=χ Qi
 go_wp2_with fail
 have⟨yD,Ku,ah2⟩:=DI p75 (ω #[.slice ua0 un0 um0,.slice ua1 un1 um1,.slice ua2 un2 um2,.slice ua3 un3 um3,.slice ua4 un4 um4,.slice ua5 un5 um5] 26);generalize p75.alloc _=p76 at yD Ku ah2⊢;refine m1 (mK _ 0) fun p77 Qj=>?_
 go_wp2_with fail
 have⟨aaf,Kv,ah4⟩:=nt p77 [(0,0)] #[Ξ Θ 0,Ξ Θ 0] 1 rfl rfl (by omega);generalize p77.alloc _=p78 at aaf Kv ah4⊢;refine m1 (dd _ (Δ ⟨p77.heap.size,0,Ψ⟩) 1 1) fun p79 Qk=>?_
 go_wp2_with fail
 have⟨aag,Kw,ah5⟩:=WX p79 [(0,Ω (Δ ⟨p77.heap.size,0,Ψ⟩) 1 1)] #[Ξ Θ 0,Ω (Δ ⟨p77.heap.size,0,Ψ⟩) 1 1] 1 rfl rfl (by omega);generalize p79.alloc _=p80 at aag Kw ah5⊢;refine m1 (eF _ 5) fun p81 Ql=>?_
 go_wp2_with fail
 have⟨aah,Kx,ah7⟩:=nt p81 [(4,5)] #[Ξ Θ 4,Ξ Θ 5] 1 rfl rfl (by omega);generalize p81.alloc _=p82 at aah Kx ah7⊢;refine m1 (dd _ (Δ ⟨p81.heap.size,0,Ψ⟩) 1 1) fun p83 Qm=>?_
 go_wp2_with fail
 refine m1 (dd _ Ψ 0 0) fun p84 Qn=>?_
 go_wp2_with fail
 refine m1 (eF _ 6) fun p85 Qo=>?_
 go_wp2_with fail
 have⟨aai,Ky,ah9⟩:=nt p85 [(4,6)] #[Ξ Θ 4,Ξ Θ 6] 1 rfl rfl (by omega);generalize p85.alloc _=p86 at aai Ky ah9⊢;refine m1 (dd _ (Δ ⟨p85.heap.size,0,Ψ⟩) 1 1) fun p87 Qp=>?_
 go_wp2_with fail
 refine m1 (i4 _ 0) fun p88 Qq=>?_
 go_wp2_with fail
 have⟨aaj,Kz,aib⟩:=nt p88 [(3,0)] #[Ξ Θ 3,Ξ Θ 0] 1 rfl rfl (by omega);generalize p88.alloc _=p89 at aaj Kz aib⊢;refine m1 (dd _ (Δ ⟨p88.heap.size,0,Ψ⟩) 1 1) fun p90 Qr=>?_
 go_wp2_with fail
 refine m1 (mK _ 0) fun p91 Qs=>?_
 go_wp2_with fail
 have⟨aak,KA,aid⟩:=nt p91 [(0,0)] #[Ξ Θ 0,Ξ Θ 0] 1 rfl rfl (by omega);generalize p91.alloc _=p92 at aak KA aid⊢;refine m1 (dd _ (Δ ⟨p91.heap.size,0,Ψ⟩) 1 1) fun p93 Qt=>?_
 go_wp2_with fail
 refine m1 (eF _ 6) fun p94 Qu=>?_
 go_wp2_with fail
 refine m2 (DH _ 4 6) fun b3 p95 aie Qv=>?_
 go_wp2_with fail
 refine m1 (mK _ 5) fun p96 Qw=>?_
 go_wp2_with fail
 have⟨aal,KB,aig⟩:=nt p96 [(0,5)] #[Ξ Θ 0,Ξ Θ 5] 1 rfl rfl (by omega);generalize p96.alloc _=p97 at aal KB aig⊢;refine m1 (dd _ (Δ ⟨p96.heap.size,0,Ψ⟩) 1 1) fun p98 Qx=>?_
 go_wp2_with fail
 refine m1 (eF _ 1) fun p99 Qy=>?_
 go_wp2_with fail
 have⟨KC,s,Re⟩:=nt p99 [(4,1)] #[Ξ Θ 4,Ξ Θ 1] 1 rfl rfl (by omega);generalize p99.alloc _=atj at KC s Re⊢;refine m1 (dd _ (Δ ⟨p99.heap.size,0,Ψ⟩) 1 1) fun Qz S=>?_
 go_wp2_with fail
 have⟨KD,t,Rf⟩:=WX Qz [(0,Ω (Δ ⟨p81.heap.size,0,Ψ⟩) 1 1),(0,Ω Ψ 0 0),(0,Ω (Δ ⟨p85.heap.size,0,Ψ⟩) 1 1),(0,Ω (Δ ⟨p88.heap.size,0,Ψ⟩) 1 1),(0,Ω (Δ ⟨p91.heap.size,0,Ψ⟩) 1 1),(1,Ω (Δ ⟨b3,0,Ψ⟩) 1 1),(0,Ω (Δ ⟨p96.heap.size,0,Ψ⟩) 1 1),(0,Ω (Δ ⟨p99.heap.size,0,Ψ⟩) 1 1)] #[Ξ Θ 0,Ω (Δ ⟨p81.heap.size,0,Ψ⟩) 1 1,Ξ Θ 0,Ω Ψ 0 0,Ξ Θ 0,Ω (Δ ⟨p85.heap.size,0,Ψ⟩) 1 1,Ξ Θ 0,Ω (Δ ⟨p88.heap.size,0,Ψ⟩) 1 1,Ξ Θ 0,Ω (Δ ⟨p91.heap.size,0,Ψ⟩) 1 1,Ξ Θ 1,Ω (Δ ⟨b3,0,Ψ⟩) 1 1,Ξ Θ 0,Ω (Δ ⟨p96.heap.size,0,Ψ⟩) 1 1,Ξ Θ 0,Ω (Δ ⟨p99.heap.size,0,Ψ⟩) 1 1] 8 rfl rfl (by omega);generalize Qz.alloc _=atk at KD t Rf⊢;refine m1 (eF _ 3) fun atl Q=>?_
 go_wp2_with fail
 refine m1 (eF _ 1) fun atm X=>?_
 go_wp2_with fail
 refine m1 (i4 _ 0) fun atn O=>?_
 go_wp2_with fail
 refine m1 (sY _) fun N P=>?_
 go_wp2_with fail
 have⟨KE,z,KF⟩:=nt N [(4,3),(4,1),(3,0),(2,0)] #[Ξ Θ 4,Ξ Θ 3,Ξ Θ 4,Ξ Θ 1,Ξ Θ 3,Ξ Θ 0,Ξ Θ 2,Ξ Θ 0] 4 rfl rfl (by omega);generalize N.alloc _=aii at KE z KF⊢;have⟨R,y,U⟩:=alI aii [3] #[Ξ Θ 3] 1 rfl rfl (by omega);rw[KF]at R U;generalize aii.alloc _=aij at R y U⊢;have⟨yE,A,Rh⟩:=DI aij (ω #[Ω (Δ ⟨p79.heap.size,0,Ψ⟩) 1 1,Ω (Δ ⟨Qz.heap.size,0,Ψ⟩) 8 8,Ω (Δ ⟨N.heap.size,0,Ψ⟩) 4 4,Ω Ψ 0 0,Ω Ψ 0 0,Ω (Δ ⟨N.heap.size+1,0,Ψ⟩) 1 1] 26);generalize aij.alloc _=ato at yE A Rh⊢;refine m1 (kp _ 1) fun G Y=>?_
 have Ri:=φ G.heap.size G;have KG:=bx Y Ri;have Rj:=bx A KG;have Rk:=bx y Rj;have Rl:=bx z Rk;have Rm:=bx P Rl;have Rn:=bx O Rm;have Ro:=bx X Rn;have Rp:=bx Q Ro;have Rq:=bx t Rp;have Rr:=bx S Rq;have aik:=bx s Rr;have ail:=bx Qy aik;have aim:=bx Qx ail;have ain:=bx KB aim;have aio:=bx Qw ain;have aip:=bx Qv aio;have aiq:=bx Qu aip;have air:=bx Qt aiq;have ais:=bx KA air;have ait:=bx Qs ais;have aiu:=bx Qr ait;have aiv:=bx Kz aiu;have aiw:=bx Qq aiv;have aix:=bx Qp aiw;have aiy:=bx Ky aix;have aiz:=bx Qo aiy;have aiA:=bx Qn aiz;have aiB:=bx Qm aiA;have aiC:=bx Kx aiB;have aiD:=bx Ql aiC;have aiE:=bx Kw aiD;have aiF:=bx Qk aiE;have aiG:=bx Kv aiF;have aam:=bx Qj aiG;have aiH:=bx Ku aam;have aiI:=bx L aiH;have aiJ:=bx Kt aiI;have aiK:=bx H aiJ;have dwp:=bx Qg aiK;obtain⟨k0,k1,k2,k3,k4,k5⟩:=lG ((aam.block _ (Γ.1 yD.out).1).trans yD.out);obtain⟨j0,j1,j2,j3,j4,j5⟩:=lG ((KG.block _ (Γ.1 yE.out).1).trans yE.out);rw[U]at j0 j1 j2 j3 j4 j5;replace k0:=dB (o:=(ω #[Ξ Θ 1,Ξ Θ 1] 50)) k0;replace k1:=dB (o:=(ω #[Ξ Θ 1,Ξ Θ 1] 50)) k1;replace k2:=dB (o:=(ω #[Ξ Θ 1,Ξ Θ 1] 50)) k2;replace k3:=dB (o:=(ω #[Ξ Θ 1,Ξ Θ 1] 50)) k3;replace k4:=dB (o:=(ω #[Ξ Θ 1,Ξ Θ 1] 50)) k4;replace k5:=dB (o:=(ω #[Ξ Θ 1,Ξ Θ 1] 50)) k5;replace j0:=dB (o:=(ω #[Ξ Θ 1,Ξ Θ 1] 50)) j0;replace j1:=dB (o:=(ω #[Ξ Θ 1,Ξ Θ 1] 50)) j1;replace j2:=dB (o:=(ω #[Ξ Θ 1,Ξ Θ 1] 50)) j2;replace j3:=dB (o:=(ω #[Ξ Θ 1,Ξ Θ 1] 50)) j3;replace j4:=dB (o:=(ω #[Ξ Θ 1,Ξ Θ 1] 50)) j4;replace j5:=dB (o:=(ω #[Ξ Θ 1,Ξ Θ 1] 50)) j5
 go_wp2_with fail
 have⟨yF,T,Rs⟩:=DI G (ω #[Ξ Θ 1,Ξ Θ 1] 50);generalize G.alloc _=aan at yF T Rs⊢;clear k0 k1 k2 k3 k4 k5 j0 j1 j2 j3 j4 j5;have V:=φ aan.heap.size aan;have Rt:=bx T V;have Ru:=bx Y Rt;have KH:=bx A Ru;have KI:=bx y KH;have Rv:=bx z KI;have Rw:=bx P Rv;have Rx:=bx O Rw;have Ry:=bx X Rx;have KJ:=bx Q Ry;have Rz:=bx t KJ;have KK:=bx S Rz;have aiL:=bx s KK;have aiM:=bx Qy aiL;have aao:=bx Qx aiM;have aiN:=bx KB aao;have aap:=bx Qw aiN;have aiO:=bx Qv aap;have aiP:=bx Qu aiO;have aaq:=bx Qt aiP;have aiQ:=bx KA aaq;have aiR:=bx Qs aiQ;have aar:=bx Qr aiR;have aiS:=bx Kz aar;have aiT:=bx Qq aiS;have aas:=bx Qp aiT;have aiU:=bx Ky aas;have aiV:=bx Qo aiU;have aiW:=bx Qn aiV;have aat:=bx Qm aiW;have aiX:=bx Kx aat
 have aau:=bx Ql aiX;have aiY:=bx Kw aau;have aav:=bx Qk aiY;have aiZ:=bx Kv aav;have ai0:=bx Qj aiZ;have aaw:=bx Ku ai0;have ai1:=bx L aaw;have ai2:=bx Kt ai1;have ai3:=bx H ai2;have cwp:=bx Qg ai3;have hg1:=GV.below aaw Qh.out;have hg2:GV aan (.agg #[Ω (Δ ⟨p79.heap.size,0,Ψ⟩) 1 1,Ω (Δ ⟨Qz.heap.size,0,Ψ⟩) 8 8,Ω (Δ ⟨N.heap.size,0,Ψ⟩) 4 4,Ω Ψ 0 0,Ω Ψ 0 0,Ω (Δ ⟨N.heap.size+1,0,Ψ⟩) 1 1]) g6p:=⟨_,_,_,_,_,_,rfl,OC.reads (OC.below aag.out aau) (aY.cons (k:=0) (OV.reads (OV.below aaf.out aav)) (aY.nil _)),OC.reads (OC.below KD.out KJ) (aY.cons (k:=0) (OV.reads (OV.below aah.out aat)) (aY.cons (k:=0) dv (aY.cons (k:=0) (OV.reads (OV.below aai.out aas)) (aY.cons (k:=0) (OV.reads (OV.below aaj.out aar)) (aY.cons (k:=0) (OV.reads (OV.below aak.out aaq)) (aY.cons (k:=1) (eI.below aap aie.out) (aY.cons (k:=0) (OV.reads (OV.below aal.out aao)) (aY.cons (k:=0) (OV.reads (OV.below KC.out KK)) (aY.nil _))))))))),OV.reads (OV.below KE.out KI),dv,dv,OI.reads (OI.below R.out KH)⟩;refine(NU _ _ _ g6p hg1 hg2).mono ?_;rintro e QA ⟨rfl,C⟩;have yF':=(C.block _ (Γ.1 ((V.block _ (Γ.1 yF.out).1).trans yF.out)).1).trans ((V.block _ (Γ.1 yF.out).1).trans yF.out);have l0:QA.cell? ⟨G.heap.size,0,Ψ⟩=Δ (Ξ Θ 1):=by simp[υ,yF']
 have l1:QA.cell? ⟨G.heap.size,1,Ψ⟩=Δ (Ξ Θ 1):=by simp[υ,yF']
 replace C:=χ C;clear hg1 hg2 yF'
 go_wp2_with fail
 have⟨KL,KM,RB⟩:=nt QA [(1,1),(1,1),(1,1),(1,1),(1,1),(1,1)] #[Ξ Θ 1,Ξ Θ 1,Ξ Θ 1,Ξ Θ 1,Ξ Θ 1,Ξ Θ 1,Ξ Θ 1,Ξ Θ 1,Ξ Θ 1,Ξ Θ 1,Ξ Θ 1,Ξ Θ 1] 6 rfl rfl (by omega);generalize QA.alloc _=ai4 at KL KM RB⊢;have RD:=φ ai4.heap.size ai4;have RE:=bx KM RD;have RF:=bx C RE;have RI:=bx T RF;have RJ:=bx Y RI;have RK:=bx A RJ;have RN:=bx y RK;have RP:=bx z RN;have RR:=bx P RP;have RW:=bx O RR;have RX:=bx X RW;have RY:=bx Q RX;have RZ:=bx t RY;have R0:=bx S RZ;have ai5:=bx s R0;have ai6:=bx Qy ai5;have ai7:=bx Qx ai6;have ai8:=bx KB ai7;have ai9:=bx Qw ai8;have aja:=bx Qv ai9;have ajb:=bx Qu aja;have ajc:=bx Qt ajb;have ajd:=bx KA ajc;have aje:=bx Qs ajd;have ajf:=bx Qr aje;have ajg:=bx Kz ajf;have ajh:=bx Qq ajg;have aji:=bx Qp ajh;have ajj:=bx Ky aji;have ajk:=bx Qo ajj;have ajl:=bx Qn ajk;have ajm:=bx Qm ajl;have ajn:=bx Kx ajm;have ajo:=bx Ql ajn;have ajp:=bx Kw ajo;have ajq:=bx Qk ajp;have ajr:=bx Kv ajq;have ajs:=bx Qj ajr;have aax:=bx Ku ajs;have ajt:=bx L aax;have aju:=bx Kt ajt;have ajv:=bx H aju;have ewp:=bx Qg ajv;refine m1 (Aq _ _ _ Fi (eI.below aax Qi.out) (OV.reads KL.out)) fun b R1=>?_
 clear l0 l1;have hA3:=χ (hA2.out.trans ((ewp.trans (R1.out.mono ewp.size)).mono hA2.out.size));clear Qi;clear Qg ah0 H Kt ah1 L Ku ah2 Qj Kv aaf ah4 Qk Kw aag ah5 Ql Kx aah ah7 Qm Qn Qo Ky aai ah9 Qp Qq Kz aaj aib Qr Qs KA aak aid Qt Qu Qv aie Qw KB aal aig Qx Qy s KC Re S t KD Rf Q X O P z KE KF y R U A Rh Y T Rs C KM KL RB R1 ai3 ai2 ai1 aaw ai0 aiZ aav aiY aau aiX aat aiW aiV aiU aas aiT aiS aar aiR aiQ aaq aiP aiO aap aiN aao aiM aiL KK Rz KJ Ry Rx Rw Rv KI KH Ru Rt V aiK aiJ aiI aiH aam aiG aiF aiE aiD aiC aiB aiA aiz aiy aix aiw aiv aiu ait ais air aiq aip aio ain aim ail aik Rr Rq Rp Ro Rn Rm Rl Rk Rj KG Ri ajv aju ajt aax ajs ajr ajq ajp ajo ajn ajm ajl ajk ajj aji ajh ajg ajf aje ajd ajc ajb aja ai9 ai8 ai7 ai6 ai5 R0 RZ RY RX RW RR RP RN RK RJ RI RF RE RD aae yD yE yF;clear hA2
 go_wp2_with fail
 obtain⟨y1,y2,y3,y4,hb5,KU⟩:=al5 b (ω #[Ξ Θ 2] 3) (ω #[Ξ Θ 2,Ξ Θ 0] 3) (ω #[Ξ Θ 0,Ξ Θ 3] 3) (ω #[Ω (Δ ⟨b.heap.size,0,Ψ⟩) 1 1,Ω (Δ ⟨b.heap.size+1,0,Ψ⟩) 2 2,Ω (Δ ⟨b.heap.size+1+1,0,Ψ⟩) 2 2] 24) (ω #[Ξ Θ 11,Ξ Θ 14,Ξ Θ 9] 34);have y0:(((((b.alloc (ω #[Ξ Θ 2] 3)).alloc (ω #[Ξ Θ 2,Ξ Θ 0] 3)).alloc (ω #[Ξ Θ 0,Ξ Θ 3] 3)).alloc (ω #[Ω (Δ ⟨b.heap.size,0,Ψ⟩) 1 1,Ω (Δ ⟨b.heap.size+1,0,Ψ⟩) 2 2,Ω (Δ ⟨b.heap.size+1+1,0,Ψ⟩) 2 2] 24)).alloc (ω #[Ξ Θ 11,Ξ Θ 14,Ξ Θ 9] 34)).heap[b.heap.size]?=Δ (ω #[Ξ Θ 2] 3 (0,0)):=((((af (b.alloc (ω #[Ξ Θ 2] 3)) (ω #[Ξ Θ 2,Ξ Θ 0] 3)).alloc (by simp) (ω #[Ξ Θ 0,Ξ Θ 3] 3)).alloc (by simp<;>omega) (ω #[Ω (Δ ⟨b.heap.size,0,Ψ⟩) 1 1,Ω (Δ ⟨b.heap.size+1,0,Ψ⟩) 2 2,Ω (Δ ⟨b.heap.size+1+1,0,Ψ⟩) 2 2] 24)).alloc (by simp<;>omega) (ω #[Ξ Θ 11,Ξ Θ 14,Ξ Θ 9] 34)).block _ (by simp)|>.trans (heap_alloc_new b (ω #[Ξ Θ 2] 3))
 generalize (((((b.alloc (ω #[Ξ Θ 2] 3)).alloc (ω #[Ξ Θ 2,Ξ Θ 0] 3)).alloc (ω #[Ξ Θ 0,Ξ Θ 3] 3)).alloc (ω #[Ω (Δ ⟨b.heap.size,0,Ψ⟩) 1 1,Ω (Δ ⟨b.heap.size+1,0,Ψ⟩) 2 2,Ω (Δ ⟨b.heap.size+1+1,0,Ψ⟩) 2 2] 24)).alloc (ω #[Ξ Θ 11,Ξ Θ 14,Ξ Θ 9] 34))=wL at y0 y1 y2 y3 y4 hb5 KU⊢;have HL:=χ (ψ hb5 (ψ KU (ψ y0 (ψ y1 (ψ y2 (ψ y3 y4))))));clear y0 y1 y2 y3 y4 hb5 KU
 go_loopw [19] (fun i wr=>∃(k:Nat),k<=3/\i=Ξ Θ k/\Hid (Below wL.heap.size wL wr)) (fun i _=>3-(intOf i).toNat)
 case atStart=>exact⟨0,by omega,rfl,χ (φ _ _)⟩
 case round=>
  obtain⟨k,hk,rfl,HI⟩:=hrel;obtain⟨hb5,KU,y0,y1,y2,y3,y4⟩:=HL.out;have hsr:=HI.out.size;by_cases hlt:k<3
  ·obtain⟨ma,mn,mm,ml,I,hmc,hiv,hcode,hz,hne,hml⟩:∃ma mn mm ml I,wr.cell? ⟨b.heap.size+1+1+1,k,Ψ⟩=Δ (.slice ma mn mm)/\n9 wr (.slice ma mn mm) ml/\wr.cell? ⟨b.heap.size+1+1+1+1,k,Ψ⟩=Δ (Ξ Θ I)/\cN (sV ml)=I/\I≠0/\ml.length<=1000:=by
    obtain⟨a0,a1,a2⟩:=Rd ((HI.out.block _ (by omega)).trans y3);obtain⟨b0,b1,b2⟩:=Rd ((HI.out.block _ (by omega)).trans y4)
    match k,hlt with
    |0,_=>exact⟨_,_,_,[2],11,a0,(J4 (l:=[2]) (n:=1) (arr:=#[Ξ Θ 2]) ((HI.out.block _ (by omega)).trans y0) rfl rfl rfl (by omega)).reads,b0,di.2.1,by decide,by decide⟩
    |1,_=>exact⟨_,_,_,[2,0],14,a1,(J4 (l:=[2,0]) (n:=2) (arr:=#[Ξ Θ 2,Ξ Θ 0]) ((HI.out.block _ (by omega)).trans y1) rfl rfl rfl (by omega)).reads,b1,di.2.2.1,by decide,by decide⟩
    |2,_=>exact⟨_,_,_,[0,3],9,a2,(J4 (l:=[0,3]) (n:=2) (arr:=#[Ξ Θ 0,Ξ Θ 3]) ((HI.out.block _ (by omega)).trans y2) rfl rfl rfl (by omega)).reads,b2,di.2.2.2,by decide,by decide⟩
   have hk0:(0:Int)<=(k:Int):=by omega
   have hk1:(k:Int)<3:=by omega
   have HM:=χ (ψ hiv (ψ hz (ψ hne hml)));have aox:=az hmc;have aoy:=az hcode;clear hiv hz hne hml y0 y1 y2 y3 y4 hb5 KU
   go_wp2_with fail
   refine(JW _).mono ?_;rintro e j ⟨bn,bo,r,bm,ln,wa,rfl,G1,G2,G3,G4,G5,G6,G7⟩;have hgw:=G6.trans (G7.mono G6.size);have q4:=(hgw.cell (p:=⟨b.heap.size+1+1+1,k,Ψ⟩) aox).trans hmc;have q5:=(hgw.cell (p:=⟨b.heap.size+1+1+1+1,k,Ψ⟩) aoy).trans hcode;have GG:=χ (ψ (show GV j (.agg #[Ω (Δ ⟨bn,0,Ψ⟩) 4 4,Ω (Δ ⟨bo,0,Ψ⟩) 3 3,Ω (Δ ⟨r,0,Ψ⟩) 4 4,Ω Ψ 0 0,Ω Ψ 0 0,.slice ma mn mm]) (sV ml)from⟨_,_,_,_,_,_,rfl,(OC.reads G1 G2).below G7,G3.below G7,OV.reads G4,dv,dv,HM.out.1.below hgw⟩) hgw);clear G1 G2 G3 G4 G5 G6 G7 hgw hmc hcode;have q4':=dB (o:=ω #[Ω (Δ ⟨bn,0,Ψ⟩) 4 4,Ω (Δ ⟨bo,0,Ψ⟩) 3 3,Ω (Δ ⟨r,0,Ψ⟩) 4 4,Ω Ψ 0 0,Ω Ψ 0 0,Ω (Δ ⟨bm,0,Ψ⟩) 2 2] 26) q4
   go_wp2_with fail
   have yb:=heap_alloc_new j (ω #[Ω (Δ ⟨bn,0,Ψ⟩) 4 4,Ω (Δ ⟨bo,0,Ψ⟩) 3 3,Ω (Δ ⟨r,0,Ψ⟩) 4 4,Ω Ψ 0 0,Ω Ψ 0 0,.slice ma mn mm] 26);have hbb:=af j (ω #[Ω (Δ ⟨bn,0,Ψ⟩) 4 4,Ω (Δ ⟨bo,0,Ψ⟩) 3 3,Ω (Δ ⟨r,0,Ψ⟩) 4 4,Ω Ψ 0 0,Ω Ψ 0 0,.slice ma mn mm] 26);generalize j.alloc (ω #[Ω (Δ ⟨bn,0,Ψ⟩) 4 4,Ω (Δ ⟨bo,0,Ψ⟩) 3 3,Ω (Δ ⟨r,0,Ψ⟩) 4 4,Ω Ψ 0 0,Ω Ψ 0 0,.slice ma mn mm] 26)=wb at yb hbb⊢;obtain⟨t0,t1,t2,t3,t4,t5⟩:=lG yb;have p5:=(hbb.cell (p:=⟨b.heap.size+1+1+1+1,k,Ψ⟩) (az q5)).trans q5;have HB:=χ (ψ hbb yb);clear yb hbb q4 q4' q5
   go_region_held3 (fun x=>x.cell? ⟨j.heap.size,0,Ψ⟩=Δ (Ω (Δ ⟨bn,0,Ψ⟩) 4 4)/\x.cell? ⟨j.heap.size,1,Ψ⟩=Δ (Ω (Δ ⟨bo,0,Ψ⟩) 3 3)/\x.cell? ⟨j.heap.size,2,Ψ⟩=Δ (Ω (Δ ⟨r,0,Ψ⟩) 4 4)/\x.cell? ⟨j.heap.size,3,Ψ⟩=Δ (Ω Ψ 0 0)/\x.cell? ⟨j.heap.size,4,Ψ⟩=Δ (Ω Ψ 0 0)/\x.cell? ⟨j.heap.size,5,Ψ⟩=Δ (.slice ma mn mm)/\x.cell? ⟨b.heap.size+1+1+1+1,k,Ψ⟩=Δ (Ξ Θ I)) ((refine⟨?_,?_,?_,?_,?_,?_,?_⟩<;>(repeat (first|with_reducible assumption|with_reducible refine dO ?_))))
    ((go_at_call 49;(with_reducible refine(PA _ _ ml I (GV.below (φ _ _).drew (GV.below HB.out.1 GG.out.1)) HM.out.2.2.2 HM.out.2.1 HM.out.2.2.1 (np.below herr.out (hA3.out.trans ((((HL.out.1.trans (HI.out.mono HL.out.1.size)).trans ((GG.out.2.trans (HB.out.1.mono GG.out.2.size)).mono (by have:=HL.out.1.size;omega))).drew).mono hA3.out.size)))).mono ?_);rintro e wq ⟨rfl,hq⟩;have m:Below wb.heap.size wb wq:=(φ _ _).drew.trans hq;have a0:=(m.cell (p:=⟨j.heap.size,0,Ψ⟩) (az t0)).trans t0;have a1:=(m.cell (p:=⟨j.heap.size,1,Ψ⟩) (az t1)).trans t1;have a2:=(m.cell (p:=⟨j.heap.size,2,Ψ⟩) (az t2)).trans t2;have a3:=(m.cell (p:=⟨j.heap.size,3,Ψ⟩) (az t3)).trans t3;have a4:=(m.cell (p:=⟨j.heap.size,4,Ψ⟩) (az t4)).trans t4;have a5:=(m.cell (p:=⟨j.heap.size,5,Ψ⟩) (az t5)).trans t5;have a6:=(m.cell (p:=⟨b.heap.size+1+1+1+1,k,Ψ⟩) (az p5)).trans p5))
   have hst:Below wL.heap.size wL wq:=(HI.out.trans ((GG.out.2.trans (HB.out.1.mono GG.out.2.size)).mono hsr)).trans (m.mono (by have:=GG.out.2.size;have:=HB.out.1.size;omega));clear a0 a1 a2 a3 a4 a5 a6 t0 t1 t2 t3 t4 t5 p5
   go_wp2_with fail
   go_roundw
   case rel=>exact⟨k+1,by omega,by go_num,χ hst⟩
   case measure=>simp[intOf];omega
  ·have hke:k=3:=by omega
   subst hke
   go_wp2_with fail
   go_ret;exact⟨rfl,hA3.out.trans ((HL.out.1.trans (HI.out.mono HL.out.1.size)).mono hA3.out.size)⟩
end Kn
