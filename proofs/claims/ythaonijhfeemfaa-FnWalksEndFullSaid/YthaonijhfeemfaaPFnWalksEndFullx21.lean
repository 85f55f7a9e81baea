-- Written by a program of this session (wip/tools/pp.sh) out of the translation; Lean checks it.
import Derived.Test.YthaonijhfeemfaaPFnWalksEndFullx13
namespace Go.Proofs.Ythaonijhfeemfaa.dL
open Go.RowKit Go.Proofs.YthaonijhfeemfaaOwn Go.Proofs.YthaonijhfeemfaaW.bU Go.Proofs.YthaonijhfeemfaaW.fB Go.Proofs.YthaonijhfeemfaaW.iw
attribute [local go_sem] nG nH nK nL nD nE nI nJ   -- for this text's walks alone
set_option linter.unusedVariables false
set_option maxHeartbeats 8000000
set_option maxRecDepth 100000
set_option linter.unusedSimpArgs false

def jY.l0 : Nat→List Int→List Int→List (List Int)→Int→Int→Option (List Int)
 | 0,_,_,_,_,_=>none
 | k + 1,x1,x5,x9,x10,x11=>if x11 < x10 then (if 0 ≤ x11 then (if x11 < (x9.length : Int) then ((eT.f k x1 (ah x9 x11)).bind fun afx=>(if afx = true then (if x5.length < 17592186044416 then (jY.l0 k x1 (x5 ++ [x11]) x9 x10 (wrap64 (x11 + 1))) else (none)) else (jY.l0 k x1 x5 x9 x10 (wrap64 (x11 + 1))))) else (none)) else (none)) else (some x5)
def jY.f (k : Nat) (a0 : Int) (l1 : List Int) : Option (List Int):=(cB.f k a0).bind fun qU=>(jY.l0 k l1 ([] : List Int) qU (qU.length : Int) 0)
theorem jY.bC : ∀ k,(∀ y0 y1 y2 y3 y4,LeO (jY.l0 k y0 y1 y2 y3 y4) (jY.l0 (k + 1) y0 y1 y2 y3 y4))
 | 0=>fun _ _ _ _ _ r h=>by simp [jY.l0] at h
 | k + 1=>by
  have ih0:=jY.bC k
  ·intro y0 y1 y2 y3 y4
   unfold jY.l0
   have m0:=@eT.mono
   have m1:=@cB.mono
   exact MO
theorem jY.mono : ∀ a0 a1 k,LeO (jY.f k a0 a1) (jY.f (k + 1) a0 a1):=by
 intro a0 a1 k;have ih0:=jY.bC k;unfold jY.f
 have m0:=@eT.mono
 have m1:=@cB.mono
 exact MO
theorem jY.calls (k : Nat) (a0 : Int) (A1 : Option Addr) (c1 : Nat) (l1 : List Int) (r : List Int) (w : World) (hr1 : Kd.C (Kd.int .i64) w A1 l1.length l1) (hc1 : l1.length ≤ c1) (h : jY.f k a0 l1 = some r) :
  Calls Try.prog 40 #[.int .i64 a0,.slice A1 l1.length c1] w fun e w'=>∃ v0_ : Value,e = .returned (v0_)∧Kd.R (Kd.int .i64) 3 w' w.heap.size (fun _=>True) v0_ r∧Below w.heap.size w w':=by
 have HR1:=AM hr1;have HC1:=AM hc1;clear hr1 hc1;have HB:=HRf w;have H : ((cB.f k a0).bind fun qU=>(jY.l0 k l1 ([] : List Int) qU (qU.length : Int) 0)) = some r:=h;clear h;replace H:=EA H;obtain ⟨qU,A3,H⟩:=H;have H':=AM H;clear H;go_enter Try.func40,Try.ntmps40;go_wp2_with (first|(refine GC 28 ?_;refine GM (some 9) Try.func28 (cB.calls k a0 qU _ A3.out) ?_;rintro e w4 ⟨aFh,rfl,ho0,hb⟩;refine ⟨_,rfl,?_⟩;have ale:=AM (Kd.jG ho0 (BZ BB));replace HB:=HS hb;try clear hb ho0;obtain ⟨Ao5,co5,eo5⟩:=Kd.jC ale.out;subst eo5));go_loopg [5,11] k (fun kq v5 v11 w'=>∃ (fF : List Int) (j6 : Int),v11 = .int .i64 j6∧ak (jY.l0 kq l1 fF qU (qU.length : Int) j6 = some r)∧ak (kq ≤ k)∧ak (Kd.R (Kd.int .i64) 3 w' w.heap.size (fun _=>True) v5 fF)∧ak (Kd.S (Kd.slice 3 (Kd.int .i64)) 24 w' w.heap.size (fun k_=>some k_≠(v5 : Value).ownBlock) (.slice Ao5 qU.length co5) qU)∧ak (Below w.heap.size w w'))
 case atStart=>exact ⟨(([] : List Int)),(0),RF,H',⟨Nat.le_refl _⟩,⟨by first|exact Kd.om _ _ _ _ _|exact Kd.qz _ _ _ _ _|exact Kd.pE _ _ _ _ _|exact Kd.qA _ _ _ _ _|exact Kd.qB _ _ _ _ _⟩,⟨by (with_reducible repeat (first|apply Kd.fK|apply Kd.fM|apply Kd.dB));exact Kd.dx ale.out (fun _ hk=>(by simp [Value.ownBlock]))⟩,⟨BB⟩⟩
 case round =>
  clear H';try clear c1
  try clear c2
  try clear p2
  try clear c4
  obtain ⟨fF,j6,rfl,HA,HK1,fq,iB,HB⟩:=hrel;cases gk with
  | zero=>exact absurd HA.out (by simp [jY.l0])
  | succ k1 =>
   have H:=HA.out;clear HA;simp only [jY.l0] at H;by_cases c6 : j6 < (qU.length : Int)
   ·rw [if_pos c6] at H;have iA:=DT c6;clear c6;replace H:=IC H;obtain ⟨c7,H⟩:=H;have kS:=DT c7;clear c7;replace H:=IC H;obtain ⟨c8,H⟩:=H;have nU:=DT c8;clear c8;replace H:=EA H;obtain ⟨afx,A9,H⟩:=H;by_cases c10 : afx = true
    ·subst c10;replace H:=IP H;replace H:=IC H;obtain ⟨c11,H⟩:=H;have RV:=AM c11;clear c11;obtain ⟨amN,acR⟩ : ∃ y_ : List Int,y_ = (fF ++ [j6]):=⟨_,rfl⟩;replace H : (jY.l0 k1 l1 amN qU (qU.length : Int) (wrap64 (j6 + 1))) = some r:=HY H acR;have auR:=AM acR;clear acR;have H':=AM H;clear H;have EW : 0 ≤ (j6 : Int):=OD AS;have EX : j6 < (qU.length : Int):=OD AS;obtain ⟨alf,ar6,ar7,afy,aax,Nr,Qz⟩:=gT (Kd.bW iB.out).2.2 j6 EW EX;cases afy;obtain ⟨auS,abC,abD,RJ⟩:=Kd.ny iB.out [] j6 EW (by first|exact EX|exact OD AS|(have e_:=(Kd.bW iB.out).1;omega));obtain ⟨aqx,rfl,IV⟩:=abD;have zZ:=RJ 0 _ rfl;rw [Nat.add_zero,show ((Kd.slice 3 (Kd.int .i64))).sz = 1 from rfl,Nat.mul_one] at zZ;replace zZ:=Option.some.inj (zZ.symm.trans aax);rw [zZ] at IV;have aay:=AM (show Kd.R (Kd.int .i64) 3 _ _ _ _ (ah qU j6) from IV);clear zZ IV;clear RJ abC;have aaz:=AM Qz;have aaA:=AM Nr;clear Qz Nr;replace EW:=ET EW;replace EX:=ET EX;go_wp2_with (first|(refine GC 27 ?_;refine GM (some 18) Try.func27 (eT.calls k1 _ _ l1 _ _ (ah qU j6) true _ (CW (Kd.aQ HR1.out HB.out)) HC1.out (CX aaz) aaA.out A9.out) ?_;rintro e w' ⟨rfl,⟨nd,rfl⟩⟩;refine ⟨_,rfl,?_⟩)|((with_reducible refine pW (b:=.append) (xs:=#[.tmp 19,.tmp 21]) rfl ?_);at_builtin;refine Kd.qX (Kd.int .i64) (w0:=w) w.heap.size rfl (.tmp 19) (.tmp 21) 24 3 (.int .i64 0) 8 rfl Try.underlying24 info3 rfl (by decide) (by omega) u5 fF j6 [.int .i64 j6] (fun _=>True) (fun _=>False) rfl rfl ?aP (fun _ hk=>hk.elim) ?aF ?aO ?aB ?aS ?aL ?_;(case aP=>exact rfl);(case aB=>exact BB);(case aF=>exact (fun _ _=>trivial));(case aO=>exact (KR fq));(case aS=>exact (BZ BB));(case aL=>have:=RV.out;omega);intro aFi w12 ho hb hg hat;rw [← auR.out] at ho;replace iB:=AM (Kd.aqy (ok:=(fun _=>True)) (by (with_reducible repeat (first|apply Kd.fK|apply Kd.fM|apply Kd.dB));exact Kd.dx iB.out (fun _ hk=>⟨trivial,hk⟩)) hg hat);replace aay:=AM (Kd.Cu (ok:=(fun k_=>some k_≠(.slice (some alf) qU.length co5 : Value).ownBlock)) (by (with_reducible repeat (first|apply Kd.dh|apply Kd.dn|apply Kd.bF));exact Kd.aM aay.out (fun _ hk=>⟨hk.2,hk.1⟩)) hg hat);replace HB:=AM hb;have auT:=AM ho;clear fq;clear ho hb hg hat));go_roundg k1
     case measure=>have:=HK1.out;omega
     case rel=>exact ⟨(amN),(wrap64 (j6 + 1)),RF,H',⟨by have:=HK1.out;omega⟩,⟨KR auT⟩,⟨by (with_reducible repeat (first|apply Kd.fK|apply Kd.fM|apply Kd.dB));exact Kd.dx iB.out (fun _ hk=>hk.2)⟩,⟨BB⟩⟩
    ·replace c10:=NF c10;subst c10;replace H:=IN H;have H':=AM H;clear H;have EW : 0 ≤ (j6 : Int):=OD AS;have EX : j6 < (qU.length : Int):=OD AS;obtain ⟨alf,ar6,ar7,afy,aax,Nr,Qz⟩:=gT (Kd.bW iB.out).2.2 j6 EW EX;cases afy;obtain ⟨auS,abC,abD,RJ⟩:=Kd.ny iB.out [] j6 EW (by first|exact EX|exact OD AS|(have e_:=(Kd.bW iB.out).1;omega));obtain ⟨aqx,rfl,IV⟩:=abD;have zZ:=RJ 0 _ rfl;rw [Nat.add_zero,show ((Kd.slice 3 (Kd.int .i64))).sz = 1 from rfl,Nat.mul_one] at zZ;replace zZ:=Option.some.inj (zZ.symm.trans aax);rw [zZ] at IV;have aay:=AM (show Kd.R (Kd.int .i64) 3 _ _ _ _ (ah qU j6) from IV);clear zZ IV;clear RJ abC;have aaz:=AM Qz;have aaA:=AM Nr;clear Qz Nr;replace EW:=ET EW;replace EX:=ET EX;go_wp2_with (first|(refine GC 27 ?_;refine GM (some 18) Try.func27 (eT.calls k1 _ _ l1 _ _ (ah qU j6) false _ (CW (Kd.aQ HR1.out HB.out)) HC1.out (CX aaz) aaA.out A9.out) ?_;rintro e w' ⟨rfl,⟨nd,rfl⟩⟩;refine ⟨_,rfl,?_⟩));go_roundg k1
     case measure=>have:=HK1.out;omega
     case rel=>exact ⟨(fF),(wrap64 (j6 + 1)),RF,H',⟨by have:=HK1.out;omega⟩,⟨KR fq⟩,⟨KS iB⟩,⟨BB⟩⟩
   ·rw [if_neg c6] at H;have iA:=DF c6;try (have ayc:=iA;rw [Nr] at ayc)
    clear c6;obtain rfl:=Option.some.inj H;go_wp2;go_ret;exact ⟨_,RE,KR fq,BB⟩

def tN.f (k : Nat) (a0 : Int) (l1 : List Int) : Option (List Int × Bool):=(gG.f k a0 l1).bind fun Uk=>(if Uk = true then ((jY.f k a0 l1).bind fun Ul=>(some (Ul,true))) else (some (([] : List Int),false)))
theorem tN.mono : ∀ a0 a1 k,LeO (tN.f k a0 a1) (tN.f (k + 1) a0 a1):=by
 intro a0 a1 k;unfold tN.f
 have m0:=@jY.mono
 have m1:=@gG.mono
 exact MO
theorem tN.calls (k : Nat) (a0 : Int) (A1 : Option Addr) (c1 : Nat) (l1 : List Int) (r1 : List Int) (r2 : Bool) (w : World) (hr1 : Kd.C (Kd.int .i64) w A1 l1.length l1) (hc1 : l1.length ≤ c1) (h : tN.f k a0 l1 = some (r1,r2)) :
  Calls Try.prog 16 #[.int .i64 a0,.slice A1 l1.length c1] w fun e w'=>∃ v0_ : Value,e = .returned (.tuple #[v0_,.bool r2])∧Kd.R (Kd.int .i64) 3 w' w.heap.size (fun _=>True) v0_ r1∧Below w.heap.size w w':=by
 have HR1:=AM hr1;have HC1:=AM hc1;clear hr1 hc1;have HB:=HRf w;have H : ((gG.f k a0 l1).bind fun Uk=>(if Uk = true then ((jY.f k a0 l1).bind fun Ul=>(some (Ul,true))) else (some (([] : List Int),false)))) = some (r1,r2):=h;clear h;replace H:=EA H;obtain ⟨Uk,A3,H⟩:=H;by_cases c4 : Uk = true
 ·subst c4;replace H:=IP H;replace H:=EA H;obtain ⟨Ul,A5,H⟩:=H;simp only [Option.some.injEq,Prod.mk.injEq] at H;obtain ⟨rfl,rfl⟩:=H;go_enter Try.func16,Try.ntmps16;go_wp2_with (first|(refine GC 38 ?_;refine GM (some 8) Try.func38 (gG.calls k a0 _ _ l1 true _ (CW HR1.out) HC1.out A3.out) ?_;rintro e w' ⟨rfl,⟨nd,rfl⟩⟩;refine ⟨_,rfl,?_⟩)|(refine GC 40 ?_;refine GM (some 12) Try.func40 (jY.calls k a0 _ _ l1 Ul _ (CW HR1.out) HC1.out A5.out) ?_;rintro e w6 ⟨aFj,rfl,ho0,hb⟩;refine ⟨_,rfl,?_⟩;have auU:=AM (Kd.bD ho0 (BZ BB));replace HB:=HS hb;try clear hb ho0));go_ret2;exact ⟨_,RE,KR auU,BB⟩
 ·replace c4:=NF c4;subst c4;replace H:=IN H;simp only [Option.some.injEq,Prod.mk.injEq] at H;obtain ⟨rfl,rfl⟩:=H;go_enter Try.func16,Try.ntmps16;go_wp2_with (first|(refine GC 38 ?_;refine GM (some 8) Try.func38 (gG.calls k a0 _ _ l1 false _ (CW HR1.out) HC1.out A3.out) ?_;rintro e w' ⟨rfl,⟨nd,rfl⟩⟩;refine ⟨_,rfl,?_⟩));go_ret2;exact ⟨_,RE,by first|exact Kd.om _ _ _ _ _|exact Kd.qz _ _ _ _ _|exact Kd.pE _ _ _ _ _|exact Kd.qA _ _ _ _ _|exact Kd.qB _ _ _ _ _,BB⟩

def qE.f (k : Nat) (aC : Int) (av : List Int) (aj : List (List Int)) (ay : List Int) (a1 : Int) : Option (List Int × Bool):=(dV.f k aC av aj ay a1).bind fun su=>(if 0 < (su.length : Int) then ((iD.f k aC av aj ay a1 (ah su 0)).bind fun LA=>((iV.f k aC av aj ay LA (ah su 0)).bind fun Sr=>(some (Sr.1,Sr.2.2)))) else (none))
theorem qE.mono : ∀ a0 a1 a2 a3 a4 k,LeO (qE.f k a0 a1 a2 a3 a4) (qE.f (k + 1) a0 a1 a2 a3 a4):=by
 intro a0 a1 a2 a3 a4 k;unfold qE.f
 have m0:=@iD.mono
 have m1:=@dV.mono
 have m2:=@iV.mono
 exact MO
def qE.T2 : Bool × List (List Nat × List Nat):=(true,[([],[]),([],[]),([],[]),([],[]),([1,2,3],[1,2,3]),([],[]),([0,4,5,4],[0,4,5]),([6],[6]),([7],[7]),([7],[7]),([7],[7]),([8,6,0,1,2,3,4,5,6,7,8],[8]),([9,11,0,1,2,3,4,5,6,7,8,9,11],[9]),([10,12,0,1,2,3,4,5,6,7,8,9,10,11,12],[10])])
def qE.B2 : List Nat:=[0,0,0,0,14,0,63,127,255,255,255,511,3071,8191]
theorem qE.Tp : fC .any (opsOf Try.f42 2) = qE.T2:=by kernel_rfl
theorem qE.RY : lN qE.T2.2 qE.B2 = true:=by kernel_rfl
theorem qE.calls (k : Nat) (aC : Int) (aX : Option Addr) (aY : Nat) (av : List Int) (bA : Option Addr) (aW : Nat) (aj : List (List Int)) (bn : Option Addr) (aZ : Nat) (ay : List Int) (a1 : Int) (r1 : List Int) (r2 : Bool) (w : World) (kC : Kd.C (Kd.int .i64) w aX av.length av) (kD : av.length ≤ aY) (kE : Kd.C (Kd.slice 3 (Kd.int .i64)) w bA aj.length aj) (kF : aj.length ≤ aW) (kG : Kd.C (Kd.int .i64) w bn ay.length ay) (kH : ay.length ≤ aZ) (h : qE.f k aC av aj ay a1 = some (r1,r2)) :
  Calls Try.prog 42 #[.agg #[.int .i64 aC,.slice aX av.length aY,.slice bA aj.length aW,.slice bn ay.length aZ],.int .i64 a1] w fun e w'=>∃ v0_ : Value,e = .returned (.tuple #[v0_,.bool r2])∧Kd.R (Kd.int .i64) 3 w' w.heap.size (fun _=>True) v0_ r1∧Below w.heap.size w w':=by
 have uH:=Try.underlying43;have eZ:=AM kC;have oK:=AM kD;clear kC kD;have mD:=AM kE;have oo:=AM kF;clear kE kF;have nQ:=AM kG;have oL:=AM kH;clear kG kH;have HB:=HRf w;have H : ((dV.f k aC av aj ay a1).bind fun su=>(if 0 < (su.length : Int) then ((iD.f k aC av aj ay a1 (ah su 0)).bind fun LA=>((iV.f k aC av aj ay LA (ah su 0)).bind fun Sr=>(some (Sr.1,Sr.2.2)))) else (none))) = some (r1,r2):=h;clear h;replace H:=EA H;obtain ⟨su,A3,H⟩:=H;replace H:=IC H;obtain ⟨c4,H⟩:=H;have iR:=DT c4;have JY : decide (0 < su.length) = true:=DT (by omega);clear c4;replace H:=EA H;obtain ⟨LA,A5,H⟩:=H;replace H:=EA H;obtain ⟨⟨ayd,aye,ayf⟩,A6,H⟩:=H;try dsimp only at H
 simp only [Option.some.injEq,Prod.mk.injEq] at H;obtain ⟨rfl,rfl⟩:=H;go_enter Try.func42,Try.ntmps42;try go_wp2_with (first|((with_reducible refine dG (N:=2) rfl ?_);refine gq ?hg (N:=2) ?hd (cs:=#[.int .i64 aC,.slice aX av.length aY,.slice bA aj.length aW,.slice bn ay.length aZ]) (t:=43) ?hr ?_;(case hd=>rfl);(case hg=>rfl);(case hr=>exact GS);intro sU hg w7 aJ hb;have l9:=AM aJ;have aCR:=AM ((by rw [hg];exact (BZ BB) : w.heap.size ≤ sU));have JI:=AM ((by rw [hg];exact (BZ BB) : w.heap.size ≤ sU));replace HB:=HS hb;clear hb aJ hg;have V5 : w7.cell? ⟨sU,0,none⟩ = some (.int .i64 aC):=(BC l9.out 0).trans rfl;have V6 : w7.cell? ⟨sU,1,none⟩ = some (.slice aX av.length aY):=(BC l9.out 1).trans rfl;have V7 : w7.cell? ⟨sU,2,none⟩ = some (.slice bA aj.length aW):=(BC l9.out 2).trans rfl;have abn : w7.cell? ⟨sU,3,none⟩ = some (.slice bn ay.length aZ):=(BC l9.out 3).trans rfl;have abo:=BF l9.out 0;have V8:=BF l9.out 1;have V9:=BF l9.out 2;have abp:=BF l9.out 3)|(refine GC 43 ?_;refine GM (some 12) Try.func43 (dV.calls k aC _ _ av _ _ aj _ _ ay a1 su _ (CW (Kd.aQ eZ.out HB.out)) oK.out (CW (Kd.aQ mD.out HB.out)) oo.out (CW (Kd.aQ nQ.out HB.out)) oL.out A3.out) ?_;rintro e w9 ⟨aFk,rfl,ho0,hb⟩;refine ⟨_,rfl,?_⟩;have zw:=AM (Kd.Vx (Kd.Aj (ok':=fun k_=>k_≠sU) ho0 (fun k_ hk_=>(Kd.xw (g:=sU) (o:=.cells #[.int .i64 aC,.slice aX av.length aY,.slice bA aj.length aW,.slice bn ay.length aZ] 43 (0,0)) (BW l9) k_ hk_))) (BZ (AGE JI)));replace l9:=AM (eU (g:=sU) (o:=.cells #[.int .i64 aC,.slice aX av.length aY,.slice bA aj.length aW,.slice bn ay.length aZ] 43 (0,0)) (BW l9) hb);replace HB:=HG JI hb;try clear hb ho0;obtain ⟨cO,bY,uJ⟩:=Kd.Ij zw.out;subst uJ;have Yh : 0 ≤ (0 : Int):=(by omega);have Yi : 0 < (su.length : Int):=OD AS;obtain ⟨alg,ajL,ajM,ayg,aaB,aiO,aiP⟩:=gT (Kd.Cr zw.out).2.2 0 Yh Yi;cases ayg;obtain ⟨aCS,ar8,ar9,ajN⟩:=Kd.RZ zw.out [] 0 Yh (by first|exact Yi|exact OD AS|(have e_:=(Kd.Cr zw.out).1;omega));obtain ⟨aAV,aAW,rfl,aaC,aaD⟩:=Kd.Pp ar9;have VQ:=ajN 0 _ rfl;rw [Nat.add_zero,show ((Kd.slice 3 (Kd.int .i64))).sz = 1 from rfl,Nat.mul_one] at VQ;replace VQ:=Option.some.inj (VQ.symm.trans aaB);injection VQ with xL Et xM;rw [xL] at aaD;rw [xM] at aaC;have Fw:=AM (show Kd.V (Kd.int .i64) 3 _ w.heap.size _ _ (ah su 0) from Kd.sW aaC aaD);clear xL Et xM aaD aaC;clear ajN ar8;have aCT : (0 < su.length) = True:=ET (by omega);(try rw [show ((0 : Int)).toNat = 0 from rfl] at aaB);(try rw [Addr.add_zero'] at aaB);have Fx:=AM aiP;have aqz:=AM aiO;clear aiP aiO;replace Yh:=ET Yh;replace Yi:=ET Yi))
 replace zw:=AM (Kd.xu zw.out);replace Fw:=AM (Kd.fU Fw.out);replace l9:=AM (bL l9.out);replace Fx:=AM (Kd.sM Fx.out);replace HB:=AM (fA HB.out);refine PSt (n:=14) (S:=fun w'=>w'.cell? ⟨sU,0,none⟩ = some (.int .i64 aC)∧w'.cell? ⟨sU,1,none⟩ = some (.slice aX av.length aY)∧w'.cell? ⟨sU,2,none⟩ = some (.slice bA aj.length aW)∧w'.cell? ⟨sU,3,none⟩ = some (.slice bn ay.length aZ)) (ds:=[]) ⟨(BC l9.out 0).trans rfl,(BC l9.out 1).trans rfl,(BC l9.out 2).trans rfl,(BC l9.out 3).trans rfl⟩ (fun hHeld=>?_);refine lK qE.Tp qE.RY (fun HT_ HW_=>?_);generalize w9.drew = w11 at zw Fw l9 Fx HB hHeld ⊢;refine PA 2 18 HT_ ?_;refine PA 3 19 HT_ ?_;refine PA 5 21 HT_ ?_;refine PB 0 16 HT_ HW_ hHeld ?_;refine PB 1 17 HT_ HW_ hHeld ?_;refine PC 4 20 HT_ (fun K hK=>?_);refine iL Try.func54 (by kernel_rfl) rfl #[.agg #[.int .i64 aC,.slice aX av.length aY,.slice bA aj.length aW,.slice bn ay.length aZ],.int .i64 a1,.slice ajL (ah su 0).length ajM] (by rfl) rfl rfl TA ?_;with_reducible refine (iD.calls k aC _ _ av _ _ aj _ _ ay a1 _ _ (ah su 0) LA _ ?aU ?aV ?eu ?eB ?lC ?mQ ?Jw ?aci A5.out).mono ?_
 (case aU=>exact CW (Kd.aQ eZ.out HB.out))
 (case aV=>exact oK.out)
 (case eu=>exact CW (Kd.aQ mD.out HB.out))
 (case eB=>exact oo.out)
 (case lC=>exact CW (Kd.aQ nQ.out HB.out))
 (case mQ=>exact oL.out)
 (case Jw=>exact CX Fx)
 (case aci=>exact aqz.out);rintro e w12 ⟨rfl,hb⟩;refine ⟨_,rfl,?_⟩;replace zw:=AM (Kd.Dy (KN zw) hb);replace Fw:=VB Fw hb;replace l9:=AM (eU (g:=sU) (o:=.cells #[.int .i64 aC,.slice aX av.length aY,.slice bA aj.length aW,.slice bn ay.length aZ] 43 (0,0)) (BW l9) hb);replace Fx:=AM (Kd.aQ (CX Fx) hb);replace HB:=HG JI hb;try clear hb
 refine hK.out _ _ ⟨(BC l9.out 0).trans rfl,(BC l9.out 1).trans rfl,(BC l9.out 2).trans rfl,(BC l9.out 3).trans rfl⟩ (fun hHeld=>?_);clear hK K;refine iy (a':=?_) ?_ ?_;rotate_left
 ·show Act.put _ (some 20) _ = _;simp only [Act.put,List.setIfInBounds_toArray,List.set_cons_zero,List.set_cons_succ,dJ,eX];rfl
 refine PC 6 22 HT_ (fun K hK=>?_);refine iL Try.func53 (by kernel_rfl) rfl #[.agg #[.int .i64 aC,.slice aX av.length aY,.slice bA aj.length aW,.slice bn ay.length aZ],.int .i64 LA,.slice ajL (ah su 0).length ajM] (by rfl) rfl rfl TA ?_;with_reducible refine (iV.calls k aC _ _ av _ _ aj _ _ ay LA (fun k_=>(k_≠sU∧some k_≠(.slice (some alg) su.length bY : Value).ownBlock)) _ _ (ah su 0) ayd aye ayf _ ?aU ?aV ?eu ?eB ?lC ?mQ ?Jw A6.out).mono ?_
 (case aU=>exact CW (Kd.aQ eZ.out HB.out))
 (case aV=>exact oK.out)
 (case eu=>exact CW (Kd.aQ mD.out HB.out))
 (case eB=>exact oo.out)
 (case lC=>exact CW (Kd.aQ nQ.out HB.out))
 (case mQ=>exact oL.out)
 (case Jw=>exact Fw.out);rintro e w13 ⟨ayh,aFl,rfl,ho0,ho1,hb⟩;refine ⟨_,rfl,?_⟩;replace Fw:=VO Fw ho0 hb;have auV:=AM (Kd.bD (Kd.aM (ok':=fun k_=>True) ho0 (fun _ hk_=>trivial)) (BZ (AGE JI)));have aCU:=AM (Kd.nN (Kd.dz (ok':=fun k_=>some k_≠(ayh : Value).ownBlock∧some k_≠(.slice (some alg) su.length bY : Value).ownBlock∧k_≠sU) ho1 (fun k_ hk_=>⟨hk_.2,Or.elim hk_.1 (fun hs_=>hs_.2) (fun hn_=>(Kd.fresh' (Kd.XQ (KN zw)) k_ hn_)),Or.elim hk_.1 (fun hs_=>hs_.1) (fun hn_=>(Kd.xw (g:=sU) (o:=.cells #[.int .i64 aC,.slice aX av.length aY,.slice bA aj.length aW,.slice bn ay.length aZ] 43 (0,0)) (BW l9) k_ hn_))⟩)) (BZ (AGE JI)));replace zw:=AM (Kd.PZ (KN zw) (Kd.oh ho0) hb);replace l9:=AM (eU (g:=sU) (o:=.cells #[.int .i64 aC,.slice aX av.length aY,.slice bA aj.length aW,.slice bn ay.length aZ] 43 (0,0)) (BW l9) hb);replace Fx:=AM (Kd.aQ (CX Fx) hb);replace HB:=HG JI hb;try clear hb ho0 ho1
 refine hK.out _ _ ⟨(BC l9.out 0).trans rfl,(BC l9.out 1).trans rfl,(BC l9.out 2).trans rfl,(BC l9.out 3).trans rfl⟩ (fun hHeld=>?_);clear hK K;refine iy (a':=?_) ?_ ?_;rotate_left
 ·show Act.put _ (some 22) _ = _;simp only [Act.put,List.setIfInBounds_toArray,List.set_cons_zero,List.set_cons_succ,dJ,eX];rfl
 refine PA 7 15 HT_ ?_;refine PA 8 23 HT_ ?_;refine PA 9 24 HT_ ?_;refine PA 10 25 HT_ ?_;refine PA 11 7 HT_ ?_;refine PA 12 8 HT_ ?_;refine PA 13 9 HT_ ?_;refine l8 (l5 HT_.out (by kernel_rfl)) ?_;try go_wp2
 go_ret2;exact ⟨_,RE,KR auV,AGE JI⟩

end Go.Proofs.Ythaonijhfeemfaa.dL
