-- Written by a program of this session (wip/tools/pp.sh) out of the translation; Lean checks it.
import Derived.Test.YthaonijhfeemfaaPFnWalksEndFullx4
namespace Go.Proofs.Ythaonijhfeemfaa.dL
open Go.RowKit Go.Proofs.YthaonijhfeemfaaOwn Go.Proofs.YthaonijhfeemfaaW.bU Go.Proofs.YthaonijhfeemfaaW.fB Go.Proofs.YthaonijhfeemfaaW.iw
attribute [local go_sem] nG nH nK nL nD nE nI nJ   -- for this text's walks alone
set_option linter.unusedVariables false
set_option maxHeartbeats 8000000
set_option maxRecDepth 100000
set_option linter.unusedSimpArgs false

def kN.l0 : Nat→List (S86)→List Int→Int→Int→Option (Int)
 | 0,_,_,_,_=>none
 | k + 1,x5,x10,x11,x12=>if x12 < x11 then (if 0 ≤ x12 then (if x12 < (x10.length : Int) then (if x12 < (x5.length : Int) then (if 0 = (rd x10 x12) then (if ((aI x5 x12).f0) = 0 then (some x12) else (kN.l0 k x5 x10 x11 (wrap64 (x12 + 1)))) else (if 1 = (rd x10 x12) then (if ((aI x5 x12).f1) = 0 then (some x12) else (kN.l0 k x5 x10 x11 (wrap64 (x12 + 1)))) else (if 2 = (rd x10 x12) then (if ((aI x5 x12).f2) = 0 then (some x12) else (kN.l0 k x5 x10 x11 (wrap64 (x12 + 1)))) else (none)))) else (none)) else (none)) else (none)) else (some (-1))
def kN.f (k : Nat) (a0 : Int) (l1 : List Int) : Option (Int):=(iq.f k a0).bind fun vE=>(kN.l0 k vE l1 (l1.length : Int) 0)
theorem kN.bC : ∀ k,(∀ y0 y1 y2 y3,LeO (kN.l0 k y0 y1 y2 y3) (kN.l0 (k + 1) y0 y1 y2 y3))
 | 0=>fun _ _ _ _ r h=>by simp [kN.l0] at h
 | k + 1=>by
  have ih0:=kN.bC k
  ·intro y0 y1 y2 y3
   unfold kN.l0
   have m0:=@iq.mono
   exact MO
theorem kN.mono : ∀ a0 a1 k,LeO (kN.f k a0 a1) (kN.f (k + 1) a0 a1):=by
 intro a0 a1 k;have ih0:=kN.bC k;unfold kN.f
 have m0:=@iq.mono
 exact MO
theorem kN.calls (k : Nat) (a0 : Int) (A1 : Option Addr) (c1 : Nat) (l1 : List Int) (r : Int) (w : World) (hr1 : Kd.C (Kd.int .i64) w A1 l1.length l1) (hc1 : l1.length ≤ c1) (h : kN.f k a0 l1 = some r) :
  Calls Try.prog 47 #[.int .i64 a0,.slice A1 l1.length c1] w fun e w'=>e = .returned (.int .i64 r)∧Below w.heap.size w w':=by
 have HR1:=AM hr1;have HC1:=AM hc1;clear hr1 hc1;have HB:=HRf w;have H : ((iq.f k a0).bind fun vE=>(kN.l0 k vE l1 (l1.length : Int) 0)) = some r:=h;clear h;replace H:=EA H;obtain ⟨vE,A3,H⟩:=H;have H':=AM H;clear H;go_enter Try.func47,Try.ntmps47;go_wp2_with (first|(refine GC 75 ?_;refine GM (some 9) Try.func75 (iq.calls k a0 vE _ A3.out) ?_;rintro e w4 ⟨ayK,rfl,ho0,hb⟩;refine ⟨_,rfl,?_⟩;have ave:=AM (Kd.bD ho0 (BZ BB));replace HB:=HS hb;try clear hb ho0));go_loopg [12] k (fun kq v12 w'=>∃ (bM : Int),v12 = .int .i64 bM∧ak (kN.l0 kq vE l1 (l1.length : Int) bM = some r)∧ak (kq ≤ k)∧ak (Kd.R k86 86 w' w.heap.size (fun _=>True) ayK vE)∧ak (Below w.heap.size w w'))
 case atStart=>exact ⟨(0),RF,H',⟨Nat.le_refl _⟩,⟨KR ave⟩,⟨BB⟩⟩
 case round =>
  clear H';try clear c1
  try clear p2
  try clear c4
  obtain ⟨bM,rfl,HA,HK1,fq,HB⟩:=hrel;cases gk with
  | zero=>exact absurd HA.out (by simp [kN.l0])
  | succ k1 =>
   have H:=HA.out;clear HA;simp only [kN.l0] at H;by_cases c5 : bM < (l1.length : Int)
   ·rw [if_pos c5] at H;have ko:=DT c5;clear c5;replace H:=IC H;obtain ⟨c6,H⟩:=H;have iA:=DT c6;clear c6;replace H:=IC H;obtain ⟨c7,H⟩:=H;have kS:=DT c7;clear c7;replace H:=IC H;obtain ⟨c8,H⟩:=H;have nU:=DT c8;clear c8;by_cases c9 : 0 = (rd l1 bM)
    ·rw [if_pos c9] at H;have wD : (rd l1 bM) = 0:=c9.symm;clear c9;by_cases c10 : ((aI vE bM).f0) = 0
     ·rw [if_pos c10] at H;have mE:=QT c10;have Oe:=bne_eq_false_iff_eq.mpr c10;clear c10;obtain rfl:=Option.some.inj H;have qh : 0 ≤ (bM : Int):=OD AS;have qj : bM < (l1.length : Int):=OD AS;obtain ⟨Sy,Bu,tZ⟩:=Kd.aN HR1.out bM qh qj;cases Bu;try (replace tZ:=LC tZ)
      replace qh:=ET qh;replace qj:=ET qj;obtain ⟨dH,dA,Br⟩:=Kd.bG fq.out;subst Br;have ql : 0 ≤ (bM : Int):=OD AS;have qm : bM < (vE.length : Int):=OD AS;obtain ⟨Sz,Bv,QH,QI,QJ⟩:=uW (Kd.aA fq.out).2.2 bM ql qm;cases Bv;replace ql:=ET ql;replace qm:=ET qm;go_wp2;go_ret;exact ⟨RE,BB⟩
     ·rw [if_neg c10] at H;have mE:=beq_eq_false_iff_ne.mpr c10;have Oe:=bne_iff_ne.mpr c10;have H':=AM H;clear H;have qh : 0 ≤ (bM : Int):=OD AS;have qj : bM < (l1.length : Int):=OD AS;obtain ⟨Sy,Bu,tZ⟩:=Kd.aN HR1.out bM qh qj;cases Bu;try (replace tZ:=LC tZ)
      replace qh:=ET qh;replace qj:=ET qj;obtain ⟨dY,dR,Bt⟩:=Kd.bG fq.out;subst Bt;have ql : 0 ≤ (bM : Int):=OD AS;have qm : bM < (vE.length : Int):=OD AS;obtain ⟨Sz,Bv,QH,QI,QJ⟩:=uW (Kd.aA fq.out).2.2 bM ql qm;cases Bv;replace ql:=ET ql;replace qm:=ET qm;go_wp2;go_roundg k1
      case measure=>have:=HK1.out;omega
      case rel=>exact ⟨(wrap64 (bM + 1)),RF,H',⟨by have:=HK1.out;omega⟩,⟨KR fq⟩,⟨BB⟩⟩
    ·rw [if_neg c9] at H;by_cases c13 : 1 = (rd l1 bM)
     ·rw [if_pos c13] at H;have D6 : (rd l1 bM) = 1:=c13.symm;clear c13;by_cases c14 : ((aI vE bM).f1) = 0
      ·rw [if_pos c14] at H;have uj:=QT c14;have R4:=bne_eq_false_iff_eq.mpr c14;clear c14;obtain rfl:=Option.some.inj H;have qh : 0 ≤ (bM : Int):=OD AS;have qj : bM < (l1.length : Int):=OD AS;obtain ⟨Sy,Bu,tZ⟩:=Kd.aN HR1.out bM qh qj;cases Bu;try (replace tZ:=LC tZ)
       replace qh:=ET qh;replace qj:=ET qj;obtain ⟨uK,tq,GD⟩:=Kd.bG fq.out;subst GD;have ql : 0 ≤ (bM : Int):=OD AS;have qm : bM < (vE.length : Int):=OD AS;obtain ⟨Sz,Bv,QH,QI,QJ⟩:=uW (Kd.aA fq.out).2.2 bM ql qm;cases Bv;replace ql:=ET ql;replace qm:=ET qm;go_wp2;go_ret;exact ⟨RE,BB⟩
      ·rw [if_neg c14] at H;have uj:=beq_eq_false_iff_ne.mpr c14;have R4:=bne_iff_ne.mpr c14;have H':=AM H;clear H;have qh : 0 ≤ (bM : Int):=OD AS;have qj : bM < (l1.length : Int):=OD AS;obtain ⟨Sy,Bu,tZ⟩:=Kd.aN HR1.out bM qh qj;cases Bu;try (replace tZ:=LC tZ)
       replace qh:=ET qh;replace qj:=ET qj;obtain ⟨XU,XV,KC⟩:=Kd.bG fq.out;subst KC;have ql : 0 ≤ (bM : Int):=OD AS;have qm : bM < (vE.length : Int):=OD AS;obtain ⟨Sz,Bv,QH,QI,QJ⟩:=uW (Kd.aA fq.out).2.2 bM ql qm;cases Bv;replace ql:=ET ql;replace qm:=ET qm;go_wp2;go_roundg k1
       case measure=>have:=HK1.out;omega
       case rel=>exact ⟨(wrap64 (bM + 1)),RF,H',⟨by have:=HK1.out;omega⟩,⟨KR fq⟩,⟨BB⟩⟩
     ·rw [if_neg c13] at H;replace H:=IC H;obtain ⟨c17,H⟩:=H;have sP : (rd l1 bM) = 2:=c17.symm;clear c17;by_cases c18 : ((aI vE bM).f2) = 0
      ·rw [if_pos c18] at H;have zo:=QT c18;have F8:=bne_eq_false_iff_eq.mpr c18;clear c18;obtain rfl:=Option.some.inj H;have qh : 0 ≤ (bM : Int):=OD AS;have qj : bM < (l1.length : Int):=OD AS;obtain ⟨Sy,Bu,tZ⟩:=Kd.aN HR1.out bM qh qj;cases Bu;try (replace tZ:=LC tZ)
       replace qh:=ET qh;replace qj:=ET qj;obtain ⟨Gu,Gv,CY⟩:=Kd.bG fq.out;subst CY;have ql : 0 ≤ (bM : Int):=OD AS;have qm : bM < (vE.length : Int):=OD AS;obtain ⟨Sz,Bv,QH,QI,QJ⟩:=uW (Kd.aA fq.out).2.2 bM ql qm;cases Bv;replace ql:=ET ql;replace qm:=ET qm;go_wp2;go_ret;exact ⟨RE,BB⟩
      ·rw [if_neg c18] at H;have zo:=beq_eq_false_iff_ne.mpr c18;have F8:=bne_iff_ne.mpr c18;have H':=AM H;clear H;have qh : 0 ≤ (bM : Int):=OD AS;have qj : bM < (l1.length : Int):=OD AS;obtain ⟨Sy,Bu,tZ⟩:=Kd.aN HR1.out bM qh qj;cases Bu;try (replace tZ:=LC tZ)
       replace qh:=ET qh;replace qj:=ET qj;obtain ⟨J9,Gx,xK⟩:=Kd.bG fq.out;subst xK;have ql : 0 ≤ (bM : Int):=OD AS;have qm : bM < (vE.length : Int):=OD AS;obtain ⟨Sz,Bv,QH,QI,QJ⟩:=uW (Kd.aA fq.out).2.2 bM ql qm;cases Bv;replace ql:=ET ql;replace qm:=ET qm;go_wp2;go_roundg k1
       case measure=>have:=HK1.out;omega
       case rel=>exact ⟨(wrap64 (bM + 1)),RF,H',⟨by have:=HK1.out;omega⟩,⟨KR fq⟩,⟨BB⟩⟩
   ·rw [if_neg c5] at H;have ko:=DF c5;clear c5;obtain rfl:=Option.some.inj H;go_wp2;go_ret;exact ⟨RE,BB⟩

def tJ.f (k : Nat) (a0 : Int) (l1 : List Int) : Option (Bool × Bool):=(o9.f k a0 l1).bind fun Us=>(if Us = true then ((kN.f k a0 l1).bind fun Ut=>(some (decide (Ut < 0),true))) else (some (false,false)))
theorem tJ.mono : ∀ a0 a1 k,LeO (tJ.f k a0 a1) (tJ.f (k + 1) a0 a1):=by
 intro a0 a1 k;unfold tJ.f
 have m0:=@o9.mono
 have m1:=@kN.mono
 exact MO
theorem tJ.calls (k : Nat) (a0 : Int) (A1 : Option Addr) (c1 : Nat) (l1 : List Int) (r1 : Bool) (r2 : Bool) (w : World) (hr1 : Kd.C (Kd.int .i64) w A1 l1.length l1) (hc1 : l1.length ≤ c1) (h : tJ.f k a0 l1 = some (r1,r2)) :
  Calls Try.prog 19 #[.int .i64 a0,.slice A1 l1.length c1] w fun e w'=>e = .returned (.tuple #[.bool r1,.bool r2])∧Below w.heap.size w w':=by
 have HR1:=AM hr1;have HC1:=AM hc1;clear hr1 hc1;have HB:=HRf w;have H : ((o9.f k a0 l1).bind fun Us=>(if Us = true then ((kN.f k a0 l1).bind fun Ut=>(some (decide (Ut < 0),true))) else (some (false,false)))) = some (r1,r2):=h;clear h;replace H:=EA H;obtain ⟨Us,A3,H⟩:=H;by_cases c4 : Us = true
 ·subst c4;replace H:=IP H;replace H:=EA H;obtain ⟨Ut,A5,H⟩:=H;simp only [Option.some.injEq,Prod.mk.injEq] at H;obtain ⟨rfl,rfl⟩:=H;go_enter Try.func19,Try.ntmps19;go_wp2_with (first|(refine GC 46 ?_;refine GM (some 8) Try.func46 (o9.calls k a0 _ _ l1 true _ (CW HR1.out) HC1.out A3.out) ?_;rintro e w' ⟨rfl,⟨nd,rfl⟩⟩;refine ⟨_,rfl,?_⟩)|(refine GC 47 ?_;refine GM (some 12) Try.func47 (kN.calls k a0 _ _ l1 Ut _ (CW HR1.out) HC1.out A5.out) ?_;rintro e w6 ⟨rfl,hb⟩;refine ⟨_,rfl,?_⟩;replace HB:=HS hb;try clear hb));go_ret2;exact ⟨RE,BB⟩
 ·replace c4:=NF c4;subst c4;replace H:=IN H;simp only [Option.some.injEq,Prod.mk.injEq] at H;obtain ⟨rfl,rfl⟩:=H;go_enter Try.func19,Try.ntmps19;go_wp2_with (first|(refine GC 46 ?_;refine GM (some 8) Try.func46 (o9.calls k a0 _ _ l1 false _ (CW HR1.out) HC1.out A3.out) ?_;rintro e w' ⟨rfl,⟨nd,rfl⟩⟩;refine ⟨_,rfl,?_⟩));go_ret2;exact ⟨RE,BB⟩

def mM.l0 : Nat→Int→List Int→Int→Int→Option (Bool)
 | 0,_,_,_,_=>none
 | k + 1,x1,x7,x8,x9=>if x9 < x8 then (if 0 ≤ x9 then (if x9 < (x7.length : Int) then (if (rd x7 x9) = x1 then (some true) else (mM.l0 k x1 x7 x8 (wrap64 (x9 + 1)))) else (none)) else (none)) else (some false)
def mM.f (k : Nat) (l0 : List Int) (a1 : Int) : Option (Bool):=mM.l0 k a1 l0 (l0.length : Int) 0
theorem mM.bC : ∀ k,(∀ y0 y1 y2 y3,LeO (mM.l0 k y0 y1 y2 y3) (mM.l0 (k + 1) y0 y1 y2 y3))
 | 0=>fun _ _ _ _ r h=>by simp [mM.l0] at h
 | k + 1=>by
  have ih0:=mM.bC k
  ·intro y0 y1 y2 y3
   unfold mM.l0
   exact MO
theorem mM.mono : ∀ a0 a1 k,LeO (mM.f k a0 a1) (mM.f (k + 1) a0 a1):=by
 intro a0 a1 k;have ih0:=mM.bC k;unfold mM.f
 exact MO
theorem mM.calls (k : Nat) (A0 : Option Addr) (c0 : Nat) (l0 : List Int) (a1 : Int) (r : Bool) (w : World) (hr0 : Kd.C (Kd.int .i64) w A0 l0.length l0) (hc0 : l0.length ≤ c0) (h : mM.f k l0 a1 = some r) :
  Calls Try.prog 20 #[.slice A0 l0.length c0,.int .i64 a1] w fun e w'=>e = .returned (.bool r)∧dw w w':=by
 have HR0:=AM hr0;have HC0:=AM hc0;clear hr0 hc0;have H : (mM.l0 k a1 l0 (l0.length : Int) 0) = some r:=h;clear h;have H':=AM H;clear H;go_enter Try.func20,Try.ntmps20;go_wp2;go_loopg [9] k (fun kq v9 w'=>∃ (dS : Int),v9 = .int .i64 dS∧ak (mM.l0 kq a1 l0 (l0.length : Int) dS = some r)∧ak (kq ≤ k)∧dw w w')
 case atStart=>exact ⟨(0),RF,H',⟨Nat.le_refl _⟩,by repeat (first|exact dw.refl _|apply dw.step)⟩
 case round =>
  clear H';try clear c2
  try clear p2
  obtain ⟨dS,rfl,HA,HK1,⟨m1,rfl⟩⟩:=hrel;cases gk with
  | zero=>exact absurd HA.out (by simp [mM.l0])
  | succ k1 =>
   have H:=HA.out;clear HA;simp only [mM.l0] at H;by_cases c3 : dS < (l0.length : Int)
   ·rw [if_pos c3] at H;have iQ:=DT c3;clear c3;replace H:=IC H;obtain ⟨c4,H⟩:=H;have iR:=DT c4;clear c4;replace H:=IC H;obtain ⟨c5,H⟩:=H;have ko:=DT c5;clear c5;by_cases c6 : (rd l0 dS) = a1
    ·rw [if_pos c6] at H;have iA:=QT c6;have uG:=bne_eq_false_iff_eq.mpr c6;clear c6;obtain rfl:=Option.some.inj H;have LQ : 0 ≤ (dS : Int):=OD AS;have LU : dS < (l0.length : Int):=OD AS;obtain ⟨avf,afG,aqE⟩:=Kd.aN HR0.out dS LQ LU;cases afG;replace LQ:=ET LQ;replace LU:=ET LU;go_wp2;go_ret;exact ⟨RF,DR⟩
    ·rw [if_neg c6] at H;have iA:=beq_eq_false_iff_ne.mpr c6;have uG:=bne_iff_ne.mpr c6;have H':=AM H;clear H;have LQ : 0 ≤ (dS : Int):=OD AS;have LU : dS < (l0.length : Int):=OD AS;obtain ⟨avf,afG,aqE⟩:=Kd.aN HR0.out dS LQ LU;cases afG;replace LQ:=ET LQ;replace LU:=ET LU;go_wp2;go_roundg k1
     case measure=>have:=HK1.out;omega
     case rel=>exact ⟨(wrap64 (dS + 1)),RF,H',⟨by have:=HK1.out;omega⟩,by repeat (first|exact dw.refl _|apply dw.step)⟩
   ·rw [if_neg c3] at H;have iQ:=DF c3;clear c3;obtain rfl:=Option.some.inj H;go_wp2;go_ret;exact ⟨RF,DR⟩

end Go.Proofs.Ythaonijhfeemfaa.dL
