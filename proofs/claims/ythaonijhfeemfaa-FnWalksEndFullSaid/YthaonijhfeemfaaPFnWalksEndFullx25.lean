-- Written by a program of this session (wip/tools/pp.sh) out of the translation; Lean checks it.
import Derived.Deep.CutRange
import Derived.Test.YthaonijhfeemfaaPFnWalksEndFullx16
import Derived.Test.YthaonijhfeemfaaPFnWalksEndFullx17
import Derived.Test.YthaonijhfeemfaaPFnWalksEndFullx18
import Derived.Test.YthaonijhfeemfaaPFnWalksEndFullx19
import Derived.Test.YthaonijhfeemfaaPFnWalksEndFullx23
import Derived.Test.YthaonijhfeemfaaPFnWalksEndFullx24
namespace Go.Proofs.Ythaonijhfeemfaa.dL
open Go.RowKit Go.Proofs.YthaonijhfeemfaaOwn Go.Proofs.YthaonijhfeemfaaW.bU Go.Proofs.YthaonijhfeemfaaW.fB Go.Proofs.YthaonijhfeemfaaW.iw
attribute [local go_sem] nG nH nK nL nD nE nI nJ   -- for this text's walks alone
set_option linter.unusedVariables false
set_option maxHeartbeats 8000000
set_option maxRecDepth 100000
set_option linter.unusedSimpArgs false

theorem LC2 {w W : World} {a : Addr} {v : Value} (h : w.cell? a = some v) (hb : Below w.heap.size w W := by first | exact HB.out | exact kr HB.out _ | exact fA HB.out | exact jE HB.out _) : W.cell? a = some v := LD hb h
mutual
def bH.j0 : Nat→List Int→Int→List Int→List Int→Bool→Bool→List Int→Bool→Bool→Option (Bool)
 | 0,_,_,_,_,_,_,_,_,_=>none
 | k + 1,x1,x5,x6,x9,x10,x11,x15,x16,ayL=>if ayL = true then (none) else (if x11 = true then (bH.l0 k x1 x5 x6 x9 x10 x15 x16 x9 (x9.length : Int) 0) else (bH.j4 k x1 x5 x6 x9 x15 x16))
def bH.j4 : Nat→List Int→Int→List Int→List Int→List Int→Bool→Option (Bool)
 | 0,_,_,_,_,_,_=>none
 | k + 1,x1,x5,x6,x9,x15,x16=>if x16 = true then (if 0 < (x15.length : Int) then (if 1 < (x15.length : Int) then ((uS.f k x5 x6 (rd x15 0) (rd x15 1)).bind fun SA=>(if SA.2.2 = true then (if SA.2.1 = true then (none) else (if (SA.1.length : Int) = (x9.length : Int) then (if 0 < (SA.1.length : Int) then (if 0 ≤ (wrap64 ((x9.length : Int) - 1)) then (if (wrap64 ((x9.length : Int) - 1)) < (x9.length : Int) then (if (rd SA.1 0) = (rd x9 (wrap64 ((x9.length : Int) - 1))) then (bH.j5 k x1) else (none)) else (none)) else (none)) else (none)) else (none))) else (none))) else (none)) else (none)) else (bH.j5 k x1)
def bH.j5 : Nat→List Int→Option (Bool)
 | 0,_=>none
 | k + 1,x1=>(uR.f k x1).bind fun xH=>((iJ.f k xH.1 xH.2).bind fun W9=>((iE.f k xH.1 xH.2).bind fun als=>((tL.f k xH.1 xH.2).bind fun SC=>((tN.f k xH.1 xH.2).bind fun alu=>((bq.f k xH.1 xH.2).bind fun ac4=>((bN.f k xH.1 xH.2).bind fun alv=>((tJ.f k xH.1 xH.2).bind fun Oj=>(if (W9.2 != als.2) = true then (none) else (if W9.1 = als.1 then (if (SC.2 != alu.2) = true then (none) else ((je.f k SC.1 alu.1).bind fun amZ=>(if amZ = true then (if (ac4.2 != alv.2) = true then (none) else (if ac4.1 = alv.1 then (if (SC.2 != Oj.2) = true then (none) else (if (ac4.2 != Oj.2) = true then (none) else (if W9.2 = true then ((mM.f k SC.1 W9.1).bind fun am0=>(if am0 = true then (if Oj.2 = true then (if Oj.1 = true then (some (((SC.1.length : Int) % 2) == 1)) else (some true)) else (some true)) else (none))) else (if Oj.2 = true then (if Oj.1 = true then (none) else (some true)) else (some true))))) else (none))) else (none)))) else (none))))))))))
def bH.l0 : Nat→List Int→Int→List Int→List Int→Bool→List Int→Bool→List Int→Int→Int→Option (Bool)
 | 0,_,_,_,_,_,_,_,_,_,_=>none
 | k + 1,x1,x5,x6,x9,x10,x15,x16,Bw,Hf,vF=>if vF < Hf then (if 0 ≤ vF then (if vF < (Bw.length : Int) then ((za.f k x5 x6 (rd Bw vF)).bind fun ac5=>(if ac5.2 = true then (if x10 = true then (bH.j2 k x1 x5 x6 x9 x10 x15 x16 vF (rd Bw vF) Bw Hf vF (ac5.1 != (vF == (wrap64 ((x9.length : Int) - 1))))) else (bH.j2 k x1 x5 x6 x9 x10 x15 x16 vF (rd Bw vF) Bw Hf vF (ac5.1 != false))) else (none))) else (none)) else (none)) else (bH.j4 k x1 x5 x6 x9 x15 x16)
def bH.j2 : Nat→List Int→Int→List Int→List Int→Bool→List Int→Bool→Int→Int→List Int→Int→Int→Bool→Option (Bool)
 | 0,_,_,_,_,_,_,_,_,_,_,_,_,_=>none
 | k + 1,x1,x5,x6,x9,x10,x15,x16,x19,x20,Bw,Hf,vF,x150=>if x150 = true then (none) else (if 0 ≤ x19 then (if x19 ≤ (x9.length : Int) then ((some (x9.take (x19 : Int).toNat : List Int)).bind fun yO=>(bH.l1 k x1 x5 x6 x9 x10 x15 x16 x20 Bw Hf vF yO (yO.length : Int) 0)) else (none)) else (none))
def bH.l1 : Nat→List Int→Int→List Int→List Int→Bool→List Int→Bool→Int→List Int→Int→Int→List Int→Int→Int→Option (Bool)
 | 0,_,_,_,_,_,_,_,_,_,_,_,_,_,_=>none
 | k + 1,x1,x5,x6,x9,x10,x15,x16,x20,Bw,Hf,vF,x153,am1,Uu=>if Uu < am1 then (if 0 ≤ Uu then (if Uu < (x153.length : Int) then (if (rd x153 Uu) = x20 then (none) else (bH.l1 k x1 x5 x6 x9 x10 x15 x16 x20 Bw Hf vF x153 am1 (wrap64 (Uu + 1)))) else (none)) else (none)) else (bH.l0 k x1 x5 x6 x9 x10 x15 x16 Bw Hf (wrap64 (vF + 1)))
end
def bH.f (k : Nat) (l0 : List Int) (l1 : List Int) : Option (Bool):=(Dr.f l0 l1).bind fun Uv=>(if Uv = true then (some true) else ((yw.f k l0).bind fun jf=>((uS.f k jf.1 jf.2.1 jf.2.2.1 jf.2.2.2).bind fun qb=>((pV.f k jf.1 jf.2.1 jf.2.2.1 jf.2.2.2).bind fun JK=>((fG.f k jf.1 jf.2.1 jf.2.2.1 jf.2.2.2).bind fun uy=>((fH.f k jf.1 jf.2.1 jf.2.2.1 jf.2.2.2).bind fun SE=>(if (qb.2.2 != JK.2.2) = true then (none) else ((je.f k qb.1 JK.1).bind fun Yp=>(if Yp = true then (if (qb.2.1 != JK.2.1) = true then (none) else (if (uy.2 != SE.2) = true then (none) else ((je.f k uy.1 SE.1).bind fun Yq=>(if Yq = true then (if qb.2.2 = true then (bH.j0 k l1 jf.1 jf.2.1 qb.1 qb.2.1 qb.2.2 uy.1 uy.2 (uy.2 != (!qb.2.1))) else (bH.j0 k l1 jf.1 jf.2.1 qb.1 qb.2.1 qb.2.2 uy.1 uy.2 (uy.2 != false))) else (none))))) else (none))))))))))
theorem bH.bC : ∀ k,(∀ y0 y1 y2 y3 y4 y5 y6 y7 y8,LeO (bH.j0 k y0 y1 y2 y3 y4 y5 y6 y7 y8) (bH.j0 (k + 1) y0 y1 y2 y3 y4 y5 y6 y7 y8))∧(∀ y0 y1 y2 y3 y4 y5,LeO (bH.j4 k y0 y1 y2 y3 y4 y5) (bH.j4 (k + 1) y0 y1 y2 y3 y4 y5))∧(∀ y0,LeO (bH.j5 k y0) (bH.j5 (k + 1) y0))∧(∀ y0 y1 y2 y3 y4 y5 y6 y7 y8 y9,LeO (bH.l0 k y0 y1 y2 y3 y4 y5 y6 y7 y8 y9) (bH.l0 (k + 1) y0 y1 y2 y3 y4 y5 y6 y7 y8 y9))∧(∀ y0 y1 y2 y3 y4 y5 y6 y7 y8 y9 y10 y11 y12,LeO (bH.j2 k y0 y1 y2 y3 y4 y5 y6 y7 y8 y9 y10 y11 y12) (bH.j2 (k + 1) y0 y1 y2 y3 y4 y5 y6 y7 y8 y9 y10 y11 y12))∧(∀ y0 y1 y2 y3 y4 y5 y6 y7 y8 y9 y10 y11 y12 y13,LeO (bH.l1 k y0 y1 y2 y3 y4 y5 y6 y7 y8 y9 y10 y11 y12 y13) (bH.l1 (k + 1) y0 y1 y2 y3 y4 y5 y6 y7 y8 y9 y10 y11 y12 y13))
 | 0=>⟨fun _ _ _ _ _ _ _ _ _=>LZ,fun _ _ _ _ _ _=>LZ,fun _=>LZ,fun _ _ _ _ _ _ _ _ _ _=>LZ,fun _ _ _ _ _ _ _ _ _ _ _ _ _=>LZ,fun _ _ _ _ _ _ _ _ _ _ _ _ _ _=>LZ⟩
 | k + 1=>by
  obtain ⟨ih0,ih1,ih2,ih3,ih4,ih5⟩:=bH.bC k
  refine ⟨?_,?_,?_,?_,?_,?_⟩ <;> intros
  all_goals (first|unfold bH.j0|unfold bH.j4|unfold bH.j5|unfold bH.l0|unfold bH.j2|unfold bH.l1)
  all_goals
   repeat' first
   | with_reducible first|exact ih0 _ _ _ _ _ _ _ _ _|exact ih1 _ _ _ _ _ _|exact ih2 _|exact ih3 _ _ _ _ _ _ _ _ _ _|exact ih4 _ _ _ _ _ _ _ _ _ _ _ _ _|exact ih5 _ _ _ _ _ _ _ _ _ _ _ _ _ _|exact bq.mono _ _ _|exact fG.mono _ _ _ _ _|exact iJ.mono _ _ _|exact tL.mono _ _ _|exact za.mono _ _ _ _|exact tJ.mono _ _ _|exact uS.mono _ _ _ _ _|exact mM.mono _ _ _|exact je.mono _ _ _|exact bN.mono _ _ _|exact uR.mono _ _|exact yw.mono _ _|exact fH.mono _ _ _ _ _|exact iE.mono _ _ _|exact tN.mono _ _ _|exact pV.mono _ _ _ _ _|exact LeO.refl _|exact LeO.none _|refine LeO.ite ?_ ?_|refine LeO.bind ?_ (fun _=>?_)
   | exact LeO.none _|refine LeO.ite ?_ ?_|refine LeO.bind ?_ (fun _=>?_)
theorem bH.mono : ∀ a0 a1 k,LeO (bH.f k a0 a1) (bH.f (k + 1) a0 a1):=by
 intro a0 a1 k;obtain ⟨ih0,ih1,ih2,ih3,ih4,ih5⟩:=bH.bC k;unfold bH.f
 repeat' first
   | with_reducible first|exact ih0 _ _ _ _ _ _ _ _ _|exact ih1 _ _ _ _ _ _|exact ih2 _|exact ih3 _ _ _ _ _ _ _ _ _ _|exact ih4 _ _ _ _ _ _ _ _ _ _ _ _ _|exact ih5 _ _ _ _ _ _ _ _ _ _ _ _ _ _|exact bq.mono _ _ _|exact fG.mono _ _ _ _ _|exact iJ.mono _ _ _|exact tL.mono _ _ _|exact za.mono _ _ _ _|exact tJ.mono _ _ _|exact uS.mono _ _ _ _ _|exact mM.mono _ _ _|exact je.mono _ _ _|exact bN.mono _ _ _|exact uR.mono _ _|exact yw.mono _ _|exact fH.mono _ _ _ _ _|exact iE.mono _ _ _|exact tN.mono _ _ _|exact pV.mono _ _ _ _ _|exact LeO.refl _|exact LeO.none _|refine LeO.ite ?_ ?_|refine LeO.bind ?_ (fun _=>?_)
   | exact LeO.none _|refine LeO.ite ?_ ?_|refine LeO.bind ?_ (fun _=>?_)
def bH.T25 : Bool × List (List Nat × List Nat):=(true,[([],[]),([],[]),([],[]),([2],[2]),([3],[3]),([],[]),([5],[5]),([6],[6]),([0,1,4,7],[0,1,4,7]),([8],[8]),([9],[9]),([9],[9]),([9],[9]),([10,8,0,1,2,3,4,5,6,7,8,9,10],[10]),([11,13,0,1,2,3,4,5,6,7,8,9,10,11,13],[11]),([12,14,0,1,2,3,4,5,6,7,8,9,10,11,12,13,14],[12])])
def bH.B25 : List Nat:=[0,0,0,4,12,0,32,96,255,511,1023,1023,1023,2047,12287,32767]
theorem bH.avg : fC .any (opsOf Try.f3 25) = bH.T25:=by kernel_rfl
theorem bH.asl : lN bH.T25.2 bH.B25 = true:=by kernel_rfl
def bH.T26 : Bool × List (List Nat × List Nat):=(true,[([],[]),([0],[0]),([1],[1]),([2],[2]),([2,3],[2,3]),([4,2],[4]),([5],[5]),([6,5],[5,6]),([5],[5]),([8,5],[5,8]),([7,9,5],[5,7,9]),([5,10],[5,10]),([11,5],[11]),([12],[12]),([13,12],[12,13]),([14,12],[12,14]),([12],[12]),([12],[12]),([17,12],[12,17]),([18,12],[12,18]),([16,19,12],[12,16,19]),([20,12],[12,20]),([15,21,12],[12,15,21]),([12,22],[12,22])])
def bH.B26 : List Nat:=[0,1,3,7,15,31,63,127,63,319,1023,2047,4095,8191,16383,32767,8191,8191,139263,401407,991231,2039807,4194303,8388607]
theorem bH.avh : fC .any (opsOf Try.f3 26) = bH.T26:=by kernel_rfl
theorem bH.asn : lN bH.T26.2 bH.B26 = true:=by kernel_rfl
theorem bH.calls (k : Nat) (A0 : Option Addr) (c0 : Nat) (l0 : List Int) (A1 : Option Addr) (c1 : Nat) (l1 : List Int) (r : Bool) (w : World) (hr0 : Kd.C (Kd.int .u8) w A0 l0.length l0) (hc0 : l0.length ≤ c0) (hr1 : Kd.C (Kd.int .u8) w A1 l1.length l1) (hc1 : l1.length ≤ c1) (h : bH.f k l0 l1 = some r) :
  Calls Try.prog 3 #[.slice A0 l0.length c0,.slice A1 l1.length c1] w fun e w'=>e = .returned (.bool r)∧Below w.heap.size w w':=by
 have HR0:=AM hr0;have HC0:=AM hc0;clear hr0 hc0;have HR1:=AM hr1;have HC1:=AM hc1;clear hr1 hc1;have HB:=HRf w;have H : ((Dr.f l0 l1).bind fun Uv=>(if Uv = true then (some true) else ((yw.f k l0).bind fun jf=>((uS.f k jf.1 jf.2.1 jf.2.2.1 jf.2.2.2).bind fun qb=>((pV.f k jf.1 jf.2.1 jf.2.2.1 jf.2.2.2).bind fun JK=>((fG.f k jf.1 jf.2.1 jf.2.2.1 jf.2.2.2).bind fun uy=>((fH.f k jf.1 jf.2.1 jf.2.2.1 jf.2.2.2).bind fun SE=>(if (qb.2.2 != JK.2.2) = true then (none) else ((je.f k qb.1 JK.1).bind fun Yp=>(if Yp = true then (if (qb.2.1 != JK.2.1) = true then (none) else (if (uy.2 != SE.2) = true then (none) else ((je.f k uy.1 SE.1).bind fun Yq=>(if Yq = true then (if qb.2.2 = true then (bH.j0 k l1 jf.1 jf.2.1 qb.1 qb.2.1 qb.2.2 uy.1 uy.2 (uy.2 != (!qb.2.1))) else (bH.j0 k l1 jf.1 jf.2.1 qb.1 qb.2.1 qb.2.2 uy.1 uy.2 (uy.2 != false))) else (none))))) else (none))))))))))) = some r:=h;clear h;replace H:=EA H;obtain ⟨Uv,A3,H⟩:=H;by_cases c4 : Uv = true
 ·subst c4;replace H:=IP H;obtain rfl:=Option.some.inj H;go_enter Try.func3,Try.ntmps3;go_wp2_with (first|(refine GC 4 ?_;refine GM (some 46) Try.func4 (Dr.calls _ _ l0 _ _ l1 true _ ?aU ?aV ?eu ?eB A3.out) ?_;(case aU=>exact CW HR0.out);(case aV=>exact HC0.out);(case eu=>exact CW HR1.out);(case eB=>exact HC1.out);rintro e w' ⟨rfl,⟨nd,rfl⟩⟩;refine ⟨_,rfl,?_⟩));go_ret;exact ⟨RE,BB⟩
 ·replace c4:=NF c4;subst c4;replace H:=IN H;replace H:=EA H;obtain ⟨⟨yg,jW,Uw,Ux⟩,A5,H⟩:=H;try dsimp only at H
  replace H:=EA H;obtain ⟨⟨eD,Bz,LV⟩,A6,H⟩:=H;try dsimp only at H
  replace H:=EA H;obtain ⟨⟨afH,Yr,Yt⟩,A7,H⟩:=H;try dsimp only at H
  replace H:=EA H;obtain ⟨⟨oC,yP⟩,A8,H⟩:=H;try dsimp only at H
  replace H:=EA H;obtain ⟨⟨afI,Yu⟩,A9,H⟩:=H;try dsimp only at H
  have afJ:=AM H;clear H;go_enter Try.func3,Try.ntmps3;go_upto_region 8 with (first|(refine GC 4 ?_;refine GM (some 46) Try.func4 (Dr.calls _ _ l0 _ _ l1 false _ ?aU ?aV ?eu ?eB A3.out) ?_;(case aU=>exact CW HR0.out);(case aV=>exact HC0.out);(case eu=>exact CW HR1.out);(case eB=>exact HC1.out);rintro e w' ⟨rfl,⟨nd,rfl⟩⟩;refine ⟨_,rfl,?_⟩)|(refine GC 5 ?_;refine GM (some 49) Try.func5 (yw.calls k _ _ l0 yg jW Uw Ux _ (CW HR0.out) HC0.out A5.out) ?_;rintro e w11 ⟨aFL,rfl,ho0,hb⟩;refine ⟨_,rfl,?_⟩;have qc:=AM (Kd.bD ho0 (BZ BB));replace HB:=HS hb;try clear hb ho0;obtain ⟨dY,dR,Bt⟩:=Kd.bG qc.out;subst Bt)|(refine GC 6 ?_;refine GM (some 59) Try.func6 (uS.calls k yg _ _ jW Uw Ux eD Bz LV _ (CW (Kd.aA qc.out).2.2) ((Kd.aA qc.out).2.1) A6.out) ?_;rintro e w13 ⟨O8,rfl,ho0,hb⟩;refine ⟨_,rfl,?_⟩;have uz:=AM (Kd.bD (Kd.dM ho0 (Kd.bJ (KR qc))) (BZ BB));replace qc:=RO qc ho0 hb;replace HB:=HS hb;try clear hb ho0)|(refine GC 7 ?_;refine GM (some 68) Try.func7 (pV.calls k yg _ _ jW Uw Ux afH Yr Yt _ (CW (Kd.aA qc.out).2.2) ((Kd.aA qc.out).2.1) A7.out) ?_;rintro e w14 ⟨aFM,rfl,ho0,hb⟩;refine ⟨_,rfl,?_⟩;have zA:=AM (Kd.bD (Kd.dM (Kd.dM ho0 (Kd.bJ (KR qc))) (Kd.bJ (KR uz))) (BZ BB));replace qc:=RO qc ho0 hb;replace uz:=RO uz ho0 hb;replace HB:=HS hb;try clear hb ho0)|(refine GC 8 ?_;refine GM (some 77) Try.func8 (fG.calls k yg _ _ jW Uw Ux oC yP _ (CW (Kd.aA qc.out).2.2) ((Kd.aA qc.out).2.1) A8.out) ?_;rintro e w15 ⟨tC,rfl,ho0,hb⟩;refine ⟨_,rfl,?_⟩;have AJ:=AM (Kd.bD (Kd.dM (Kd.dM (Kd.dM ho0 (Kd.bJ (KR qc))) (Kd.bJ (KR uz))) (Kd.bJ (KR zA))) (BZ BB));replace qc:=RO qc ho0 hb;replace uz:=RO uz ho0 hb;replace zA:=RO zA ho0 hb;replace HB:=HS hb;try clear hb ho0)|(refine GC 9 ?_;refine GM (some 85) Try.func9 (fH.calls k yg _ _ jW Uw Ux afI Yu _ (CW (Kd.aA qc.out).2.2) ((Kd.aA qc.out).2.1) A9.out) ?_;rintro e w16 ⟨aFN,rfl,ho0,hb⟩;refine ⟨_,rfl,?_⟩;have Ol:=AM (Kd.bD (Kd.dM (Kd.dM (Kd.dM (Kd.dM ho0 (Kd.bJ (KR qc))) (Kd.bJ (KR uz))) (Kd.bJ (KR zA))) (Kd.bJ (KR AJ))) (BZ BB));replace qc:=RO qc ho0 hb;replace uz:=RO uz ho0 hb;replace zA:=RO zA ho0 hb;replace AJ:=RO AJ ho0 hb;replace HB:=HS hb;try clear hb ho0))
  (try simp only [Act.put,List.setIfInBounds_toArray,List.set_cons_zero,List.set_cons_succ]);go_cut [121] from 44 to 121 (fun ayM wc=>∃ (kq : Nat) (abF : Bool),ayM = .bool abF∧ak (bH.j0 kq l1 yg jW eD Bz LV oC yP abF = some r)∧ak (kq ≤ k)∧ak (Kd.R (Kd.int .i64) 3 wc w.heap.size (fun k_=>some k_≠(O8 : Value).ownBlock∧some k_≠(tC : Value).ownBlock) (.slice dY jW.length dR) jW)∧ak (Kd.R (Kd.int .i64) 3 wc w.heap.size (fun k_=>some k_≠((.slice dY jW.length dR) : Value).ownBlock∧some k_≠(tC : Value).ownBlock) O8 eD)∧ak (Kd.R (Kd.int .i64) 3 wc w.heap.size (fun k_=>some k_≠((.slice dY jW.length dR) : Value).ownBlock∧some k_≠(O8 : Value).ownBlock) tC oC)∧ak (Below w.heap.size w wc))
  case first=>as_aux_lemma =>
   have H:=afJ.out;clear afJ;replace H:=ID H;obtain ⟨c17,H⟩:=H;have sP : (LV != Yt) = false:=by simpa using c17
   (try (have JD : decide (LV = Yt) = true:=by simpa using c17))
   (try (have Om : (LV == Yt) = true:=by simpa using c17));clear c17
   (first|rw [sP]|(simp only [dJ,eX];rw [sP])|skip);replace H:=EA H;obtain ⟨Yp,A18,H⟩:=H;replace H:=IC H;obtain ⟨rfl,H⟩:=H;replace H:=ID H;obtain ⟨c20,H⟩:=H;have D9 : (Bz != Yr) = false:=by simpa using c20
   (try (have Oo : decide (Bz = Yr) = true:=by simpa using c20))
   (try (have Oq : (Bz == Yr) = true:=by simpa using c20));clear c20;replace H:=ID H;obtain ⟨c21,H⟩:=H;have F7 : (yP != Yu) = false:=by simpa using c21
   (try (have Ot : decide (yP = Yu) = true:=by simpa using c21))
   (try (have Ou : (yP == Yu) = true:=by simpa using c21));clear c21;replace H:=EA H;obtain ⟨Yq,A22,H⟩:=H;replace H:=IC H;obtain ⟨rfl,H⟩:=H;by_cases c24 : LV = true
   ·subst c24;replace H:=IP H;have H':=AM H;clear H;obtain ⟨Tt,Tv,C8⟩:=Kd.bG uz.out;subst C8;obtain ⟨Gy,yN,wG⟩:=Kd.bG zA.out;subst wG;go_wp2_with (first|(go_at_call 10;(with_reducible refine (je.calls k _ _ eD _ _ afH true _ ?aU ?aV ?eu ?eB A18.out).mono ?_);(case aU=>exact CW (Kd.aA uz.out).2.2);(case aV=>exact (Kd.aA uz.out).2.1);(case eu=>exact CW (Kd.aA zA.out).2.2);(case eB=>exact (Kd.aA zA.out).2.1);rintro e w' ⟨rfl,⟨nd,rfl⟩⟩;obtain ⟨GN,EC,Bg⟩:=Kd.bG AJ.out;subst Bg;obtain ⟨aep,aer,Kv⟩:=Kd.bG Ol.out;subst Kv)|(go_at_call 10;(with_reducible refine (je.calls k _ _ oC _ _ afI true _ ?aU ?aV ?eu ?eB A22.out).mono ?_);(case aU=>exact CW (Kd.aA AJ.out).2.2);(case aV=>exact (Kd.aA AJ.out).2.1);(case eu=>exact CW (Kd.aA Ol.out).2.2);(case eB=>exact (Kd.aA Ol.out).2.1);rintro e w' ⟨rfl,⟨nd,rfl⟩⟩));go_meet
    case rel=>exact ⟨_,((yP != (!Bz))),RF,H',⟨by first|omega|exact Nat.le_refl _⟩,⟨by (with_reducible repeat (first|apply Kd.dh|apply Kd.dn|apply Kd.bF));exact Kd.aM qc.out (fun _ hk=>⟨hk.1.1.1.2,hk.1.2⟩)⟩,⟨by (with_reducible repeat (first|apply Kd.dh|apply Kd.dn|apply Kd.bF));exact Kd.aM uz.out (fun _ hk=>⟨hk.1.1.1.2,hk.1.2⟩)⟩,⟨by (with_reducible repeat (first|apply Kd.dh|apply Kd.dn|apply Kd.bF));exact Kd.aM AJ.out (fun _ hk=>⟨hk.1.1.1.2,hk.1.1.2⟩)⟩,⟨BB⟩⟩
   ·replace c24:=NF c24;subst c24;replace H:=IN H;have H':=AM H;clear H;obtain ⟨aei,GH,Da⟩:=Kd.bG uz.out;subst Da;obtain ⟨TB,TD,Kk⟩:=Kd.bG zA.out;subst Kk;go_wp2_with (first|(go_at_call 10;(with_reducible refine (je.calls k _ _ eD _ _ afH true _ ?aU ?aV ?eu ?eB A18.out).mono ?_);(case aU=>exact CW (Kd.aA uz.out).2.2);(case aV=>exact (Kd.aA uz.out).2.1);(case eu=>exact CW (Kd.aA zA.out).2.2);(case eB=>exact (Kd.aA zA.out).2.1);rintro e w' ⟨rfl,⟨nd,rfl⟩⟩;obtain ⟨aml,TF,TG⟩:=Kd.bG AJ.out;subst TG;obtain ⟨axP,axQ,afb⟩:=Kd.bG Ol.out;subst afb)|(go_at_call 10;(with_reducible refine (je.calls k _ _ oC _ _ afI true _ ?aU ?aV ?eu ?eB A22.out).mono ?_);(case aU=>exact CW (Kd.aA AJ.out).2.2);(case aV=>exact (Kd.aA AJ.out).2.1);(case eu=>exact CW (Kd.aA Ol.out).2.2);(case eB=>exact (Kd.aA Ol.out).2.1);rintro e w' ⟨rfl,⟨nd,rfl⟩⟩));go_meet
    case rel=>exact ⟨_,((yP != false)),RF,H',⟨by first|omega|exact Nat.le_refl _⟩,⟨by (with_reducible repeat (first|apply Kd.dh|apply Kd.dn|apply Kd.bF));exact Kd.aM qc.out (fun _ hk=>⟨hk.1.1.1.2,hk.1.2⟩)⟩,⟨by (with_reducible repeat (first|apply Kd.dh|apply Kd.dn|apply Kd.bF));exact Kd.aM uz.out (fun _ hk=>⟨hk.1.1.1.2,hk.1.2⟩)⟩,⟨by (with_reducible repeat (first|apply Kd.dh|apply Kd.dn|apply Kd.bF));exact Kd.aM AJ.out (fun _ hk=>⟨hk.1.1.1.2,hk.1.1.2⟩)⟩,⟨BB⟩⟩
  case rest=>as_aux_lemma =>
   clear afJ;try clear c1
   try clear c2
   try clear p2
   try clear c3
   try clear c4
   try clear c5
   try clear c6
   try clear p6
   try clear c7
   try clear c8
   try clear c9
   try clear c17
   try clear sP
   try clear JD
   try clear Om
   try clear c19
   try clear c20
   try clear D9
   try clear Oo
   try clear Oq
   try clear c21
   try clear F7
   try clear Ot
   try clear Ou
   try clear c23
   try clear c24
   obtain ⟨kq,abF,rfl,HA,HJ9,bQ,iB,oq,HB⟩:=hcut;cases kq with
   | zero=>exact absurd HA.out (by simp [bH.j0])
   | succ kj9 =>
    have H:=HA.out;clear HA;simp only [bH.j0] at H;replace H:=IE H;obtain ⟨rfl,H⟩:=H;have afK:=AM H;clear H;go_upto_if 122 with (fail)
    go_cut [] from 122 to 122 (fun wc=>∃ (kq : Nat),ak (bH.j4 kq l1 yg jW eD oC yP = some r)∧ak (kq ≤ kj9)∧ak (Kd.R (Kd.int .i64) 3 wc w.heap.size (fun k_=>some k_≠(O8 : Value).ownBlock∧some k_≠(tC : Value).ownBlock) (.slice dY jW.length dR) jW)∧ak (Kd.R (Kd.int .i64) 3 wc w.heap.size (fun k_=>some k_≠((.slice dY jW.length dR) : Value).ownBlock∧some k_≠(tC : Value).ownBlock) O8 eD)∧ak (Kd.R (Kd.int .i64) 3 wc w.heap.size (fun k_=>some k_≠((.slice dY jW.length dR) : Value).ownBlock∧some k_≠(O8 : Value).ownBlock) tC oC)∧ak (Below w.heap.size w wc))
    case first=>as_aux_lemma =>
     have H:=afK.out;clear afK;by_cases c35 : LV = true
     ·subst c35;replace H:=IP H;have H':=AM H;clear H;obtain ⟨EZ,pO,LW⟩:=Kd.bG iB.out;subst LW;go_wp2;go_loopg [125] kj9 (fun kq ayN w'=>∃ (pY : Int),ayN = .int .i64 pY∧ak (bH.l0 kq l1 yg jW eD Bz oC yP eD (eD.length : Int) pY = some r)∧ak (kq ≤ kj9)∧ak (Kd.R (Kd.int .i64) 3 w' w.heap.size (fun k_=>some k_≠((.slice EZ eD.length pO) : Value).ownBlock∧some k_≠(tC : Value).ownBlock∧some k_≠((.slice EZ eD.length pO) : Value).ownBlock) (.slice dY jW.length dR) jW)∧ak (Kd.R (Kd.int .i64) 3 w' w.heap.size (fun k_=>some k_≠((.slice dY jW.length dR) : Value).ownBlock∧some k_≠(tC : Value).ownBlock) (.slice EZ eD.length pO) eD)∧ak (Kd.R (Kd.int .i64) 3 w' w.heap.size (fun k_=>some k_≠((.slice dY jW.length dR) : Value).ownBlock∧some k_≠((.slice EZ eD.length pO) : Value).ownBlock∧some k_≠((.slice EZ eD.length pO) : Value).ownBlock) tC oC)∧ak (Kd.R (Kd.int .i64) 3 w' w.heap.size (fun k_=>some k_≠((.slice dY jW.length dR) : Value).ownBlock∧some k_≠(tC : Value).ownBlock) (.slice EZ eD.length pO) eD)∧ak (Below w.heap.size w w'))
      case atStart=>exact ⟨(0),RF,H',⟨Nat.le_refl _⟩,⟨by (with_reducible repeat (first|apply Kd.dh|apply Kd.dn|apply Kd.bF));exact Kd.aM bQ.out (fun _ hk=>⟨hk.1,⟨hk.2,hk.1⟩⟩)⟩,⟨KR iB⟩,⟨by (with_reducible repeat (first|apply Kd.dh|apply Kd.dn|apply Kd.bF));exact Kd.aM oq.out (fun _ hk=>⟨hk.1,⟨hk.2,hk.2⟩⟩)⟩,⟨KR iB⟩,⟨BB⟩⟩
      case round=>as_aux_lemma =>
       clear H';try clear c1
       try clear c2
       try clear p2
       try clear c3
       try clear c4
       try clear c5
       try clear c6
       try clear p6
       try clear c7
       try clear c8
       try clear c9
       try clear c17
       try clear sP
       try clear JD
       try clear Om
       try clear c19
       try clear c20
       try clear D9
       try clear Oo
       try clear Oq
       try clear c21
       try clear F7
       try clear Ot
       try clear Ou
       try clear c23
       try clear c24
       try clear c33
       try clear c35
       try clear p2
       try clear p6
       obtain ⟨pY,rfl,HA,HK2,bQ,iB,oq,Cy,HB⟩:=hrel;cases gk with
       | zero=>exact absurd HA.out (by simp [bH.l0])
       | succ k2 =>
        have H:=HA.out;clear HA;simp only [bH.l0] at H;by_cases c37 : pY < (eD.length : Int)
        ·rw [if_pos c37] at H;have zx:=DT c37;clear c37
         (first|rw [zx]|(simp only [dJ,eX];rw [zx])|skip);replace H:=IC H;obtain ⟨c38,H⟩:=H;have Xa:=DT c38;clear c38;replace H:=IC H;obtain ⟨c39,H⟩:=H;have JL:=DT c39;clear c39;replace H:=EA H;obtain ⟨⟨afL,ayO⟩,A40,H⟩:=H;try dsimp only at H
         have afM:=AM H;clear H;have LX : 0 ≤ (pY : Int):=OD AS;have LY : pY < (eD.length : Int):=OD AS;obtain ⟨vo,ayP,VR⟩:=Kd.aN (Kd.aA Cy.out).2.2 pY LX LY;cases ayP;replace LX:=ET LX;replace LY:=ET LY;go_upto_region 15 with (first|(refine GC 11 ?_;refine GM (some 134) Try.func11 (za.calls k2 yg _ _ jW (rd eD pY) afL ayO _ (CW (Kd.aA bQ.out).2.2) ((Kd.aA bQ.out).2.1) A40.out) ?_;rintro e w42 ⟨rfl,hb⟩;refine ⟨_,rfl,?_⟩;replace bQ:=RB bQ hb;replace iB:=RB iB hb;replace oq:=RB oq hb;replace Cy:=RB Cy hb;replace HB:=HS hb;try clear hb))
         (try simp only [Act.put,List.setIfInBounds_toArray,List.set_cons_zero,List.set_cons_succ]);go_cut [150] (fun ayQ wc=>∃ (kq : Nat) (aaM : Bool),ayQ = .bool aaM∧ak (bH.j2 kq l1 yg jW eD Bz oC yP pY (rd eD pY) eD (eD.length : Int) pY aaM = some r)∧ak (kq ≤ k2)∧ak (Kd.R (Kd.int .i64) 3 wc w.heap.size (fun k_=>some k_≠((.slice (some vo) eD.length pO) : Value).ownBlock∧some k_≠(tC : Value).ownBlock∧some k_≠((.slice (some vo) eD.length pO) : Value).ownBlock) (.slice dY jW.length dR) jW)∧ak (Kd.R (Kd.int .i64) 3 wc w.heap.size (fun k_=>some k_≠((.slice dY jW.length dR) : Value).ownBlock∧some k_≠(tC : Value).ownBlock) (.slice (some vo) eD.length pO) eD)∧ak (Kd.R (Kd.int .i64) 3 wc w.heap.size (fun k_=>some k_≠((.slice dY jW.length dR) : Value).ownBlock∧some k_≠((.slice (some vo) eD.length pO) : Value).ownBlock∧some k_≠((.slice (some vo) eD.length pO) : Value).ownBlock) tC oC)∧ak (Kd.R (Kd.int .i64) 3 wc w.heap.size (fun k_=>some k_≠((.slice dY jW.length dR) : Value).ownBlock∧some k_≠(tC : Value).ownBlock) (.slice (some vo) eD.length pO) eD)∧ak (Below w.heap.size w wc))
         case first=>as_aux_lemma =>
          have H:=afM.out;clear afM;replace H:=IC H;obtain ⟨rfl,H⟩:=H;by_cases c44 : Bz = true
          ·subst c44;replace H:=IP H;have H':=AM H;clear H;go_wp2;go_meet
           case rel=>exact ⟨_,((afL != (pY == (wrap64 ((eD.length : Int) - 1))))),RF,H',⟨by have:=HJ9.out;have:=HK2.out;first|omega|exact Nat.le_refl _⟩,⟨KR bQ⟩,⟨KR iB⟩,⟨KR oq⟩,⟨KR Cy⟩,⟨BB⟩⟩
          ·replace c44:=NF c44;subst c44;replace H:=IN H;have H':=AM H;clear H;go_wp2;go_meet
           case rel=>exact ⟨_,((afL != false)),RF,H',⟨by have:=HJ9.out;have:=HK2.out;first|omega|exact Nat.le_refl _⟩,⟨KR bQ⟩,⟨KR iB⟩,⟨KR oq⟩,⟨KR Cy⟩,⟨BB⟩⟩
         case rest=>as_aux_lemma =>
          clear afM;try clear c1
          try clear c2
          try clear p2
          try clear c3
          try clear c4
          try clear c5
          try clear c6
          try clear p6
          try clear c7
          try clear c8
          try clear p8
          try clear q8
          try clear hx8
          try clear c9
          try clear c11
          try clear c17
          try clear sP
          try clear JD
          try clear Om
          try clear c19
          try clear c20
          try clear D9
          try clear Oo
          try clear Oq
          try clear c21
          try clear F7
          try clear Ot
          try clear Ou
          try clear c23
          try clear c24
          try clear c33
          try clear c35
          try clear c37
          try clear zx
          try clear c38
          try clear Xa
          try clear c39
          try clear JL
          try clear c43
          try clear c44
          try clear VR
          try clear p2
          try clear p6
          try clear LX
          try clear LY
          obtain ⟨kq,aaM,rfl,HA,Yv,bQ,iB,oq,Cy,HB⟩:=hcut;cases kq with
          | zero=>exact absurd HA.out (by simp [bH.j2])
          | succ afN =>
           have H:=HA.out;clear HA;simp only [bH.j2] at H;replace H:=IE H;obtain ⟨rfl,H⟩:=H;replace H:=IC H;obtain ⟨c46,H⟩:=H;have Xb:=ET c46;have ac6:=DT c46;clear c46;replace H:=IC H;obtain ⟨c47,H⟩:=H;have Xc:=ET c47;have ac7:=DT c47;clear c47;obtain ⟨yO,ac8⟩ : ∃ y_ : List Int,y_ = (eD.take (pY : Int).toNat):=⟨_,rfl⟩;replace H : (bH.l1 afN l1 yg jW eD Bz oC yP (rd eD pY) eD (eD.length : Int) pY yO (yO.length : Int) 0) = some r:=HY H ac8;have alx:=AM ac8;clear ac8;have H':=AM H;clear H;have q48 : (pY : Int) ≤ ((eD.length : Int) : Int):=OD AS;obtain ⟨aFO,aly,_,avi,_⟩:=info_parts info3;have ai0 : eD.length ≤ pO:=(Kd.aA iB.out).2.1;have am2 : Kd.C (Kd.int .i64) _ (some vo) eD.length eD:=(Kd.aA iB.out).2.2;have aso:=asq (P:=Try.prog) 24 3 .i64 Try.underlying24 aly (some vo) eD.length pO pY (OD AS) q48 ai0;have afO:=Kd.asr (m:=(pY : Int).toNat) am2 (by omega);have afP : yO.length = (pY : Int).toNat:=(by rw [alx.out,List.length_take];omega);rw [← alx.out] at afO;rw [← afP] at aso;have Xd:=AM afO;have aC6:=AM (show yO.length ≤ pO from by omega);clear afO am2 ai0 aly avi;have aFP:=AM afP;clear afP;have aFQ:=AM (show (pY : Int).toNat ≤ eD.length from by omega);replace q48:=ET q48;go_wp2;go_loopg [155] afN (fun kq ayR w'=>∃ (F4 : Int),ayR = .int .i64 F4∧ak (bH.l1 kq l1 yg jW eD Bz oC yP (rd eD pY) eD (eD.length : Int) pY yO (yO.length : Int) F4 = some r)∧ak (kq ≤ afN)∧ak (Kd.R (Kd.int .i64) 3 w' w.heap.size (fun k_=>some k_≠((.slice (some vo) eD.length pO) : Value).ownBlock∧some k_≠(tC : Value).ownBlock∧some k_≠((.slice (some vo) eD.length pO) : Value).ownBlock) (.slice dY jW.length dR) jW)∧ak (Kd.R (Kd.int .i64) 3 w' w.heap.size (fun k_=>some k_≠((.slice dY jW.length dR) : Value).ownBlock∧some k_≠(tC : Value).ownBlock) (.slice (some vo) eD.length pO) eD)∧ak (Kd.R (Kd.int .i64) 3 w' w.heap.size (fun k_=>some k_≠((.slice dY jW.length dR) : Value).ownBlock∧some k_≠((.slice (some vo) eD.length pO) : Value).ownBlock∧some k_≠((.slice (some vo) eD.length pO) : Value).ownBlock) tC oC)∧ak (Kd.R (Kd.int .i64) 3 w' w.heap.size (fun k_=>some k_≠((.slice dY jW.length dR) : Value).ownBlock∧some k_≠(tC : Value).ownBlock) (.slice (some vo) eD.length pO) eD)∧ak (Kd.C (Kd.int .i64) w' (some vo) yO.length yO)∧ak (Below w.heap.size w w'))
           case atStart=>exact ⟨(0),RF,H',⟨Nat.le_refl _⟩,⟨KR bQ⟩,⟨KR iB⟩,⟨KR oq⟩,⟨KR Cy⟩,⟨CX Xd⟩,⟨BB⟩⟩
           case round=>as_aux_lemma =>
            clear H';try clear c1
            try clear c2
            try clear p2
            try clear c3
            try clear c4
            try clear q4
            try clear c5
            try clear c6
            try clear p6
            try clear c7
            try clear c8
            try clear p8
            try clear q8
            try clear hx8
            try clear c9
            try clear c11
            try clear c17
            try clear sP
            try clear JD
            try clear Om
            try clear c19
            try clear c20
            try clear D9
            try clear Oo
            try clear Oq
            try clear c21
            try clear F7
            try clear Ot
            try clear Ou
            try clear c23
            try clear c24
            try clear c33
            try clear c35
            try clear c37
            try clear zx
            try clear c38
            try clear Xa
            try clear c39
            try clear JL
            try clear c43
            try clear c44
            try clear c45
            try clear c46
            try clear Xb
            try clear ac6
            try clear c47
            try clear Xc
            try clear ac7
            try clear q48
            try clear VR
            try clear p2
            try clear p6
            try clear p8
            try clear LX
            try clear q48
            try clear q8
            try clear LY
            obtain ⟨F4,rfl,HA,HK4,bQ,iB,oq,Cy,Xd,HB⟩:=hrel;cases gk with
            | zero=>exact absurd HA.out (by simp [bH.l1])
            | succ k4 =>
             have H:=HA.out;clear HA;simp only [bH.l1] at H;by_cases c49 : F4 < (yO.length : Int)
             ·rw [if_pos c49] at H;have Oi:=DT c49;clear c49;replace H:=IC H;obtain ⟨c50,H⟩:=H;have ac1:=DT c50;clear c50;replace H:=IC H;obtain ⟨c51,H⟩:=H;have ac2:=DT c51;clear c51;replace H:=ID H;obtain ⟨c52,H⟩:=H;have Xe:=beq_eq_false_iff_ne.mpr c52;have Xf:=bne_iff_ne.mpr c52;have H':=AM H;clear H;have Uy : 0 ≤ (F4 : Int):=OD AS;have Uz : F4 < (yO.length : Int):=OD AS;obtain ⟨avj,ayS,VT⟩:=Kd.aN Xd.out F4 Uy Uz;obtain rfl : vo = avj:=(by injection ayS);try (replace VT:=LC2 VT)
              replace Uy:=ET Uy;replace Uz:=ET Uz;go_wp2;go_roundg k4
              case measure=>have:=HJ9.out;have:=HK2.out;have:=Yv.out;have:=HK4.out;omega
              case rel=>exact ⟨(wrap64 (F4 + 1)),RF,H',⟨by have:=HJ9.out;have:=HK2.out;have:=Yv.out;have:=HK4.out;omega⟩,⟨KR bQ⟩,⟨KR iB⟩,⟨KR oq⟩,⟨KR Cy⟩,⟨CX Xd⟩,⟨BB⟩⟩
             ·rw [if_neg c49] at H;have Oi:=DF c49;clear c49;have H':=AM H;clear H;go_wp2;go_roundg k4
              case measure=>have:=HJ9.out;have:=HK2.out;have:=Yv.out;have:=HK4.out;omega
              case rel=>exact ⟨(wrap64 (pY + 1)),RF,H',⟨by have:=HJ9.out;have:=HK2.out;have:=Yv.out;have:=HK4.out;omega⟩,⟨KR bQ⟩,⟨KR iB⟩,⟨KR oq⟩,⟨KR Cy⟩,⟨BB⟩⟩
        ·rw [if_neg c37] at H;have zx:=DF c37;clear c37
         (first|rw [zx]|(simp only [dJ,eX];rw [zx])|skip);have H':=AM H;clear H;go_wp2;go_meet
         case rel=>exact ⟨_,H',⟨by have:=HJ9.out;have:=HK2.out;first|omega|exact Nat.le_refl _⟩,⟨by (with_reducible repeat (first|apply Kd.dh|apply Kd.dn|apply Kd.bF));exact Kd.aM bQ.out (fun _ hk=>⟨hk.1,hk.2.1⟩)⟩,⟨KR iB⟩,⟨by (with_reducible repeat (first|apply Kd.dh|apply Kd.dn|apply Kd.bF));exact Kd.aM oq.out (fun _ hk=>⟨hk.1,hk.2.1⟩)⟩,⟨BB⟩⟩
     ·replace c35:=NF c35;subst c35;replace H:=IN H;have H':=AM H;clear H;go_wp2;go_meet
      case rel=>exact ⟨_,H',⟨by have:=HJ9.out;first|omega|exact Nat.le_refl _⟩,⟨KR bQ⟩,⟨KR iB⟩,⟨KR oq⟩,⟨BB⟩⟩
    case rest=>as_aux_lemma =>
     clear afK;try clear c1
     try clear c2
     try clear p2
     try clear c3
     try clear c4
     try clear q4
     try clear c5
     try clear c6
     try clear p6
     try clear c7
     try clear c8
     try clear p8
     try clear q8
     try clear hx8
     try clear c9
     try clear c11
     try clear c17
     try clear sP
     try clear JD
     try clear Om
     try clear c19
     try clear c20
     try clear D9
     try clear Oo
     try clear Oq
     try clear c21
     try clear F7
     try clear Ot
     try clear Ou
     try clear c23
     try clear c24
     try clear c33
     try clear c35
     try clear c37
     try clear zx
     try clear c38
     try clear Xa
     try clear c39
     try clear JL
     try clear c43
     try clear c44
     try clear c45
     try clear c46
     try clear Xb
     try clear ac6
     try clear c47
     try clear Xc
     try clear ac7
     try clear q48
     try clear c49
     try clear Oi
     try clear c50
     try clear ac1
     try clear c51
     try clear ac2
     try clear c52
     try clear Xe
     try clear Xf
     try clear VR
     try clear VT
     try clear p2
     try clear p6
     try clear p8
     try clear LX
     try clear Uy
     try clear q4
     try clear q48
     try clear q8
     try clear LY
     try clear Uz
     obtain ⟨kq,HA,am3,bQ,iB,oq,HB⟩:=hcut;cases kq with
     | zero=>exact absurd HA.out (by simp [bH.j4])
     | succ afQ =>
      have H:=HA.out;clear HA;simp only [bH.j4] at H;have afR:=AM H;clear H;go_upto_if 164 with (fail)
      go_cut [] from 123 to 164 (fun wc=>∃ (kq : Nat),ak (bH.j5 kq l1 = some r)∧ak (kq ≤ afQ)∧ak (Below w.heap.size w wc))
      case first=>as_aux_lemma =>
       have H:=afR.out;clear afR;by_cases c54 : yP = true
       ·subst c54;replace H:=IP H;replace H:=IC H;obtain ⟨c55,H⟩:=H;have ac9:=DT c55;have avk : decide (0 < oC.length) = true:=DT (by omega);clear c55
        (first|rw [ac9]|(simp only [dJ,eX];rw [ac9])|skip);replace H:=IC H;obtain ⟨c56,H⟩:=H;have avl:=DT c56;have avm : decide (1 < oC.length) = true:=DT (by omega);clear c56;replace H:=EA H;obtain ⟨⟨L6,aFR,aFS⟩,A57,H⟩:=H;try dsimp only at H
        replace H:=IC H;obtain ⟨rfl,H⟩:=H;replace H:=IE H;obtain ⟨rfl,H⟩:=H;replace H:=IC H;obtain ⟨c60,H⟩:=H;have avn:=QT c60;have avo:=bne_eq_false_iff_eq.mpr c60;have avp : (L6.length == eD.length) = true:=by first|simpa using c60|(simp at c60 ⊢;omega)
        clear c60;replace H:=IC H;obtain ⟨c61,H⟩:=H;have avq:=DT c61;have avr : decide (0 < L6.length) = true:=DT (by omega);clear c61;obtain ⟨E5,Xg⟩ : ∃ j_ : Int,(wrap64 ((eD.length : Int) - 1)) = j_:=⟨_,rfl⟩;replace H : (if 0 ≤ (E5) then (if (E5) < (eD.length : Int) then (if (rd L6 0) = (rd eD (E5)) then (bH.j5 afQ l1) else (none)) else (none)) else (none)) = some r:=by first|(rw [Xg] at H;exact H)|(simp only [Xg] at H ⊢;exact H)
        (try rw [Xg] at A57);have aBO : (IntKind.i64.wrap ((eD.length : Int) - 1)) = E5:=(dJ _).trans Xg;replace H:=IC H;obtain ⟨c63,H⟩:=H;have avs:=DT c63;clear c63;replace H:=IC H;obtain ⟨c64,H⟩:=H;have avt:=DT c64;clear c64;replace H:=IC H;obtain ⟨c65,H⟩:=H;have avu:=QT c65;have avv:=bne_eq_false_iff_eq.mpr c65;clear c65;have H':=AM H;clear H;try go_wp2
        replace bQ:=AM (Kd.bF bQ.out);replace iB:=AM (Kd.bF iB.out);replace oq:=AM (Kd.bF oq.out);replace HB:=AM (fA HB.out);obtain ⟨aFT,aFU,am4⟩:=Kd.bG oq.out
        (first|subst am4|(injection am4 with f1_ f2_ f3_;have f4_:=f1_.symm;have f5_:=f3_.symm;clear f1_ f2_ f3_;subst f4_;subst f5_));have Yw : 0 ≤ (0 : Int):=(by omega);have Yx : 0 < (oC.length : Int):=OD AS;obtain ⟨Xh,ayT,QK⟩:=Kd.aN (Kd.aA oq.out).2.2 0 Yw Yx;cases ayT;have aC7 : (0 < oC.length) = True:=ET (by omega)
        (try rw [show ((0 : Int)).toNat = 0 from rfl] at QK)
        (try rw [Addr.add_zero'] at QK);replace Yw:=ET Yw;replace Yx:=ET Yx;have Yy : 0 ≤ (1 : Int):=(by omega);have Yz : 1 < (oC.length : Int):=OD AS;obtain ⟨avw,ayU,QL⟩:=Kd.aN (Kd.aA oq.out).2.2 1 Yy Yz;obtain rfl : Xh = avw:=(by injection ayU)
        (try simp only [show (1 : Int).toNat = 1 from rfl,Nat.reduceMul,Nat.reduceEqDiff,Go.Addr.add,↓reduceIte] at QL);have aC8 : (1 < oC.length) = True:=ET (by omega)
        (try rw [show ((1 : Int)).toNat = 1 from rfl] at QL);replace Yy:=ET Yy;replace Yz:=ET Yz;refine PSt (n:=16) (S:=fun w'=>w'.cell? Xh = some (.int .i64 (rd oC 0))∧w'.cell? ⟨Xh.block,Xh.off + 1,none⟩ = some (.int .i64 (rd oC 1))) (ds:=[]) ⟨QK,QL⟩ (fun hHeld=>?_);refine lK bH.avg bH.asl (fun HT_ HW_=>?_);generalize wc.drew = w66 at bQ iB oq HB QK QL hHeld ⊢;refine PA 0 166 HT_ ?_;refine PA 1 167 HT_ ?_;refine PA 2 168 HT_ ?_;refine PA 3 169 HT_ ?_;refine PA 5 171 HT_ ?_;refine PA 6 172 HT_ ?_;refine PB 4 170 HT_ HW_ hHeld ?_;refine PB 7 173 HT_ HW_ hHeld ?_;refine PC 8 174 HT_ (fun K hK=>?_);refine iL Try.func6 (by kernel_rfl) rfl #[.int .i64 yg,.slice dY jW.length dR,.int .i64 (rd oC 0),.int .i64 (rd oC 1)] (by rfl) rfl rfl TA ?_;with_reducible refine (uS.calls afQ yg _ _ jW (rd oC 0) (rd oC 1) L6 false true _ ?aU ?aV A57.out).mono ?_
        (case aU=>exact CW (Kd.aA bQ.out).2.2)
        (case aV=>exact (Kd.aA bQ.out).2.1);rintro e w68 ⟨aFV,rfl,ho0,hb⟩;have mX:=LD hb hHeld.1;have qd:=LD hb hHeld.2;refine ⟨_,rfl,?_⟩;have SF:=AM (Kd.bD (Kd.dM (Kd.dM (Kd.dM ho0 (Kd.bJ (KR bQ))) (Kd.bJ (KR iB))) (Kd.bJ (KR oq))) (BZ BB));replace bQ:=RO bQ ho0 hb;replace iB:=RO iB ho0 hb;replace oq:=RO oq ho0 hb;replace HB:=HS hb;try clear hb ho0
        refine hK.out _ _ ⟨mX,qd⟩ (fun hHeld=>?_);clear hK K;refine iy (a':=?_) ?_ ?_;rotate_left
        ·show Act.put _ (some 174) _ = _;simp only [Act.put,List.setIfInBounds_toArray,List.set_cons_zero,List.set_cons_succ,dJ,eX];rfl
        refine PA 9 165 HT_ ?_;refine PA 10 175 HT_ ?_;refine PA 11 176 HT_ ?_;refine PA 12 177 HT_ ?_;refine PA 13 25 HT_ ?_;refine PA 14 26 HT_ ?_;refine PA 15 27 HT_ ?_;refine l8 (l5 HT_.out (by kernel_rfl)) ?_;try go_wp2
        replace bQ:=AM (Kd.bF bQ.out);replace iB:=AM (Kd.bF iB.out);replace oq:=AM (Kd.bF oq.out);replace SF:=AM (Kd.bF SF.out);replace HB:=AM (fA HB.out);obtain ⟨aFW,aFX,am5⟩:=Kd.bG SF.out
        (first|subst am5|(injection am5 with f1_ f2_ f3_;have f4_:=f1_.symm;have f5_:=f3_.symm;clear f1_ f2_ f3_;subst f4_;subst f5_));obtain ⟨aFY,aFZ,am6⟩:=Kd.bG iB.out
        (first|subst am6|(injection am6 with f1_ f2_ f3_;have f4_:=f1_.symm;have f5_:=f3_.symm;clear f1_ f2_ f3_;subst f4_;subst f5_));have YA : 0 ≤ (0 : Int):=(by omega);have YB : 0 < (L6.length : Int):=OD AS;obtain ⟨avx,ayV,QM⟩:=Kd.aN (Kd.aA SF.out).2.2 0 YA YB;cases ayV;have aC9 : (0 < L6.length) = True:=ET (by omega)
        (try rw [show ((0 : Int)).toNat = 0 from rfl] at QM)
        (try rw [Addr.add_zero'] at QM);replace YA:=ET YA;replace YB:=ET YB;have YC : 0 ≤ ((E5) : Int):=OD AS;have YD : (E5) < (eD.length : Int):=OD AS;obtain ⟨avy,ayW,aaN⟩:=Kd.aN (Kd.aA iB.out).2.2 (E5) YC YD;cases ayW;replace YC:=ET YC;replace YD:=ET YD;refine PSt (n:=24) (S:=fun w'=>w'.cell? avx = some (.int .i64 (rd L6 0))∧w'.cell? (avy.add ((E5)).toNat) = some (.int .i64 (rd eD (E5)))) (ds:=[]) ⟨QM,aaN⟩ (fun hHeld=>?_);refine lK bH.avh bH.asn (fun HT_ HW_=>?_);generalize w68.drew = w69 at bQ iB oq SF HB QM aaN hHeld ⊢;refine PA 0 178 HT_ ?_;refine PA 1 179 HT_ ?_;refine PA 2 180 HT_ ?_;refine PA 3 181 HT_ ?_;refine PA 4 182 HT_ ?_;refine PA 5 183 HT_ ?_;refine PA 6 184 HT_ ?_;refine PA 7 185 HT_ ?_;refine PA 8 186 HT_ ?_;refine PA 9 187 HT_ ?_;refine PA 10 188 HT_ ?_;refine PA 11 189 HT_ ?_;refine PA 12 190 HT_ ?_;refine PA 13 191 HT_ ?_;refine PA 14 192 HT_ ?_;refine PA 16 194 HT_ ?_;refine PA 17 195 HT_ ?_;refine PA 18 196 HT_ ?_;refine PA 19 197 HT_ ?_;refine PA 20 198 HT_ ?_;refine PB 15 193 HT_ HW_ hHeld ?_;refine PB 21 199 HT_ HW_ hHeld ?_;refine PA 22 200 HT_ ?_;refine PA 23 201 HT_ ?_;refine l8 (l5 HT_.out (by kernel_rfl)) ?_;try go_wp2
        go_meet
        case rel=>exact ⟨_,H',⟨by have:=HJ9.out;have:=am3.out;first|omega|exact Nat.le_refl _⟩,⟨BB⟩⟩
       ·replace c54:=NF c54;subst c54;replace H:=IN H;have H':=AM H;clear H;go_wp2;go_meet
        case rel=>exact ⟨_,H',⟨by have:=HJ9.out;have:=am3.out;first|omega|exact Nat.le_refl _⟩,⟨BB⟩⟩
      case rest=>as_aux_lemma =>
       clear afR;try clear c1
       try clear c2
       try clear p2
       try clear c3
       try clear c4
       try clear q4
       try clear c5
       try clear c6
       try clear p6
       try clear p8
       try clear q8
       try clear hx8
       try clear qi8
       try clear c17
       try clear sP
       try clear JD
       try clear Om
       try clear c19
       try clear c20
       try clear D9
       try clear Oo
       try clear Oq
       try clear c21
       try clear F7
       try clear Ot
       try clear Ou
       try clear c23
       try clear c24
       try clear c33
       try clear c35
       try clear c37
       try clear zx
       try clear c38
       try clear Xa
       try clear c39
       try clear JL
       try clear c43
       try clear c44
       try clear c45
       try clear c46
       try clear Xb
       try clear ac6
       try clear c47
       try clear Xc
       try clear ac7
       try clear q48
       try clear c49
       try clear Oi
       try clear c50
       try clear ac1
       try clear c51
       try clear ac2
       try clear c52
       try clear Xe
       try clear Xf
       try clear c54
       try clear c55
       try clear ac9
       try clear avk
       try clear c56
       try clear avl
       try clear avm
       try clear c58
       try clear c59
       try clear c60
       try clear avn
       try clear avo
       try clear avp
       try clear c61
       try clear avq
       try clear avr
       try clear c63
       try clear avs
       try clear c64
       try clear avt
       try clear p64
       try clear c65
       try clear avu
       try clear avv
       try clear VR
       try clear VT
       try clear QK
       try clear QL
       try clear QM
       try clear aaN
       try clear p2
       try clear p6
       try clear p8
       try clear LX
       try clear Uy
       try clear Yw
       try clear Yy
       try clear YA
       try clear YC
       try clear q4
       try clear q48
       try clear q8
       try clear LY
       try clear Uz
       try clear Yx
       try clear Yz
       try clear YB
       try clear YD
       obtain ⟨kq,HA,aF0,HB⟩:=hcut;cases kq with
       | zero=>exact absurd HA.out (by simp [bH.j5])
       | succ iC =>
        have H:=HA.out;clear HA;simp only [bH.j5] at H;replace H:=EA H;obtain ⟨⟨jv,jw⟩,A72,H⟩:=H;try dsimp only at H
        replace H:=EA H;obtain ⟨⟨Hg,YE⟩,A73,H⟩:=H;try dsimp only at H
        replace H:=EA H;obtain ⟨⟨UA,Hl⟩,A74,H⟩:=H;try dsimp only at H
        replace H:=EA H;obtain ⟨⟨yQ,BA⟩,A75,H⟩:=H;try dsimp only at H
        replace H:=EA H;obtain ⟨⟨Dl,Ho⟩,A76,H⟩:=H;try dsimp only at H
        replace H:=EA H;obtain ⟨⟨UC,BD⟩,A77,H⟩:=H;try dsimp only at H
        replace H:=EA H;obtain ⟨⟨UD,Hq⟩,A78,H⟩:=H;try dsimp only at H
        replace H:=EA H;obtain ⟨⟨afS,Hr⟩,A79,H⟩:=H;try dsimp only at H
        replace H:=ID H;obtain ⟨c80,H⟩:=H;have aDa : (YE != Hl) = false:=by simpa using c80
        (try (have aDb : decide (YE = Hl) = true:=by simpa using c80))
        (try (have aDc : (YE == Hl) = true:=by simpa using c80));clear c80;replace H:=IC H;obtain ⟨c81,H⟩:=H;have aDd:=QT c81;have aDe:=bne_eq_false_iff_eq.mpr c81;clear c81;replace H:=ID H;obtain ⟨c82,H⟩:=H;have aDf : (BA != Ho) = false:=by simpa using c82
        (try (have aDg : decide (BA = Ho) = true:=by simpa using c82))
        (try (have aDh : (BA == Ho) = true:=by simpa using c82));clear c82;replace H:=EA H;obtain ⟨amZ,A83,H⟩:=H;replace H:=IC H;obtain ⟨rfl,H⟩:=H;replace H:=ID H;obtain ⟨c85,H⟩:=H;have aDi : (BD != Hq) = false:=by simpa using c85
        (try (have aDj : decide (BD = Hq) = true:=by simpa using c85))
        (try (have aDk : (BD == Hq) = true:=by simpa using c85));clear c85;replace H:=IC H;obtain ⟨c86,H⟩:=H;have aDl:=QT c86;have aDm:=bne_eq_false_iff_eq.mpr c86;clear c86;replace H:=ID H;obtain ⟨c87,H⟩:=H;have aDn : (BA != Hr) = false:=by simpa using c87
        (try (have aDo : decide (BA = Hr) = true:=by simpa using c87))
        (try (have aDp : (BA == Hr) = true:=by simpa using c87));clear c87;replace H:=ID H;obtain ⟨c88,H⟩:=H;have aDq : (BD != Hr) = false:=by simpa using c88
        (try (have aDr : decide (BD = Hr) = true:=by simpa using c88))
        (try (have aDs : (BD == Hr) = true:=by simpa using c88));clear c88;by_cases c89 : YE = true
        ·subst c89;replace H:=IP H;replace H:=EA H;obtain ⟨am0,A90,H⟩:=H;replace H:=IC H;obtain ⟨rfl,H⟩:=H;by_cases c92 : Hr = true
         ·subst c92;replace H:=IP H;by_cases c93 : afS = true
          ·subst c93;replace H:=IP H;obtain rfl:=Option.some.inj H;go_wp2_with (first|(refine GC 12 ?_;refine GM (some 204) Try.func12 (uR.calls iC _ _ l1 jv jw _ (CW (Kd.aQ HR1.out HB.out)) HC1.out A72.out) ?_;rintro e w94 ⟨YF,rfl,ho0,hb⟩;refine ⟨_,rfl,?_⟩;have aR:=AM (Kd.bD ho0 (BZ BB));replace HB:=HS hb;try clear hb ho0;obtain ⟨aF1,aF2,ayX⟩:=Kd.bG aR.out;subst ayX)|(refine GC 13 ?_;refine GM (some 210) Try.func13 (iJ.calls iC jv _ _ jw Hg true _ (CW (Kd.aA aR.out).2.2) ((Kd.aA aR.out).2.1) A73.out) ?_;rintro e w96 ⟨rfl,hb⟩;refine ⟨_,rfl,?_⟩;replace aR:=RB aR hb;replace HB:=HS hb;try clear hb)|(refine GC 14 ?_;refine GM (some 216) Try.func14 (iE.calls iC jv _ _ jw UA Hl _ (CW (Kd.aA aR.out).2.2) ((Kd.aA aR.out).2.1) A74.out) ?_;rintro e w97 ⟨rfl,hb⟩;refine ⟨_,rfl,?_⟩;replace aR:=RB aR hb;replace HB:=HS hb;try clear hb)|(refine GC 15 ?_;refine GM (some 222) Try.func15 (tL.calls iC jv _ _ jw yQ BA _ (CW (Kd.aA aR.out).2.2) ((Kd.aA aR.out).2.1) A75.out) ?_;rintro e w98 ⟨YG,rfl,ho0,hb⟩;refine ⟨_,rfl,?_⟩;have dQ:=AM (Kd.bD (Kd.dM ho0 (Kd.bJ (KR aR))) (BZ BB));replace aR:=RO aR ho0 hb;replace HB:=HS hb;try clear hb ho0)|(refine GC 16 ?_;refine GM (some 228) Try.func16 (tN.calls iC jv _ _ jw Dl Ho _ (CW (Kd.aA aR.out).2.2) ((Kd.aA aR.out).2.1) A76.out) ?_;rintro e w99 ⟨YH,rfl,ho0,hb⟩;refine ⟨_,rfl,?_⟩;have gW:=AM (Kd.bD (Kd.dM (Kd.dM ho0 (Kd.bJ (KR aR))) (Kd.bJ (KR dQ))) (BZ BB));replace aR:=RO aR ho0 hb;replace dQ:=RO dQ ho0 hb;replace HB:=HS hb;try clear hb ho0)|(refine GC 17 ?_;refine GM (some 234) Try.func17 (bq.calls iC jv _ _ jw UC BD _ (CW (Kd.aA aR.out).2.2) ((Kd.aA aR.out).2.1) A77.out) ?_;rintro e aF3 ⟨rfl,hb⟩;refine ⟨_,rfl,?_⟩;replace aR:=RB aR hb;replace dQ:=RB dQ hb;replace gW:=RB gW hb;replace HB:=HS hb;try clear hb)|(refine GC 18 ?_;refine GM (some 240) Try.func18 (bN.calls iC jv _ _ jw UD Hq _ (CW (Kd.aA aR.out).2.2) ((Kd.aA aR.out).2.1) A78.out) ?_;rintro e aF4 ⟨rfl,hb⟩;refine ⟨_,rfl,?_⟩;replace aR:=RB aR hb;replace dQ:=RB dQ hb;replace gW:=RB gW hb;replace HB:=HS hb;try clear hb)|(refine GC 19 ?_;refine GM (some 246) Try.func19 (tJ.calls iC jv _ _ jw true true _ (CW (Kd.aA aR.out).2.2) ((Kd.aA aR.out).2.1) A79.out) ?_;rintro e aF5 ⟨rfl,hb⟩;refine ⟨_,rfl,?_⟩;replace aR:=RB aR hb;replace dQ:=RB dQ hb;replace gW:=RB gW hb;replace HB:=HS hb;try clear hb;obtain ⟨aDt,aDu,avz⟩:=Kd.bG dQ.out;subst avz;obtain ⟨aDv,aDw,avA⟩:=Kd.bG gW.out;subst avA)|(go_at_call 10;(with_reducible refine (je.calls iC _ _ yQ _ _ Dl true _ (CW (Kd.aA dQ.out).2.2) ((Kd.aA dQ.out).2.1) (CW (Kd.aA gW.out).2.2) ((Kd.aA gW.out).2.1) A83.out).mono ?_);rintro e w' ⟨rfl,⟨nd,rfl⟩⟩)|(go_at_call 20;(with_reducible refine (mM.calls iC _ _ yQ Hg true _ (CW (Kd.aA dQ.out).2.2) ((Kd.aA dQ.out).2.1) A90.out).mono ?_);rintro e w' ⟨rfl,⟨nd,rfl⟩⟩));go_ret;exact ⟨RE,BB⟩
          ·replace c93:=NF c93;subst c93;replace H:=IN H;obtain rfl:=Option.some.inj H;go_wp2_with (first|(refine GC 12 ?_;refine GM (some 204) Try.func12 (uR.calls iC _ _ l1 jv jw _ (CW (Kd.aQ HR1.out HB.out)) HC1.out A72.out) ?_;rintro e aF6 ⟨YF,rfl,ho0,hb⟩;refine ⟨_,rfl,?_⟩;have aR:=AM (Kd.bD ho0 (BZ BB));replace HB:=HS hb;try clear hb ho0;obtain ⟨aDx,aDy,avB⟩:=Kd.bG aR.out;subst avB)|(refine GC 13 ?_;refine GM (some 210) Try.func13 (iJ.calls iC jv _ _ jw Hg true _ (CW (Kd.aA aR.out).2.2) ((Kd.aA aR.out).2.1) A73.out) ?_;rintro e aF7 ⟨rfl,hb⟩;refine ⟨_,rfl,?_⟩;replace aR:=RB aR hb;replace HB:=HS hb;try clear hb)|(refine GC 14 ?_;refine GM (some 216) Try.func14 (iE.calls iC jv _ _ jw UA Hl _ (CW (Kd.aA aR.out).2.2) ((Kd.aA aR.out).2.1) A74.out) ?_;rintro e aF8 ⟨rfl,hb⟩;refine ⟨_,rfl,?_⟩;replace aR:=RB aR hb;replace HB:=HS hb;try clear hb)|(refine GC 15 ?_;refine GM (some 222) Try.func15 (tL.calls iC jv _ _ jw yQ BA _ (CW (Kd.aA aR.out).2.2) ((Kd.aA aR.out).2.1) A75.out) ?_;rintro e aF9 ⟨YG,rfl,ho0,hb⟩;refine ⟨_,rfl,?_⟩;have dQ:=AM (Kd.bD (Kd.dM ho0 (Kd.bJ (KR aR))) (BZ BB));replace aR:=RO aR ho0 hb;replace HB:=HS hb;try clear hb ho0)|(refine GC 16 ?_;refine GM (some 228) Try.func16 (tN.calls iC jv _ _ jw Dl Ho _ (CW (Kd.aA aR.out).2.2) ((Kd.aA aR.out).2.1) A76.out) ?_;rintro e aGa ⟨YH,rfl,ho0,hb⟩;refine ⟨_,rfl,?_⟩;have gW:=AM (Kd.bD (Kd.dM (Kd.dM ho0 (Kd.bJ (KR aR))) (Kd.bJ (KR dQ))) (BZ BB));replace aR:=RO aR ho0 hb;replace dQ:=RO dQ ho0 hb;replace HB:=HS hb;try clear hb ho0)|(refine GC 17 ?_;refine GM (some 234) Try.func17 (bq.calls iC jv _ _ jw UC BD _ (CW (Kd.aA aR.out).2.2) ((Kd.aA aR.out).2.1) A77.out) ?_;rintro e aGb ⟨rfl,hb⟩;refine ⟨_,rfl,?_⟩;replace aR:=RB aR hb;replace dQ:=RB dQ hb;replace gW:=RB gW hb;replace HB:=HS hb;try clear hb)|(refine GC 18 ?_;refine GM (some 240) Try.func18 (bN.calls iC jv _ _ jw UD Hq _ (CW (Kd.aA aR.out).2.2) ((Kd.aA aR.out).2.1) A78.out) ?_;rintro e aGc ⟨rfl,hb⟩;refine ⟨_,rfl,?_⟩;replace aR:=RB aR hb;replace dQ:=RB dQ hb;replace gW:=RB gW hb;replace HB:=HS hb;try clear hb)|(refine GC 19 ?_;refine GM (some 246) Try.func19 (tJ.calls iC jv _ _ jw false true _ (CW (Kd.aA aR.out).2.2) ((Kd.aA aR.out).2.1) A79.out) ?_;rintro e aGd ⟨rfl,hb⟩;refine ⟨_,rfl,?_⟩;replace aR:=RB aR hb;replace dQ:=RB dQ hb;replace gW:=RB gW hb;replace HB:=HS hb;try clear hb;obtain ⟨aDz,aDA,avC⟩:=Kd.bG dQ.out;subst avC;obtain ⟨aDB,aDC,avD⟩:=Kd.bG gW.out;subst avD)|(go_at_call 10;(with_reducible refine (je.calls iC _ _ yQ _ _ Dl true _ (CW (Kd.aA dQ.out).2.2) ((Kd.aA dQ.out).2.1) (CW (Kd.aA gW.out).2.2) ((Kd.aA gW.out).2.1) A83.out).mono ?_);rintro e w' ⟨rfl,⟨nd,rfl⟩⟩)|(go_at_call 20;(with_reducible refine (mM.calls iC _ _ yQ Hg true _ (CW (Kd.aA dQ.out).2.2) ((Kd.aA dQ.out).2.1) A90.out).mono ?_);rintro e w' ⟨rfl,⟨nd,rfl⟩⟩));go_ret;exact ⟨RE,BB⟩
         ·replace c92:=NF c92;subst c92;replace H:=IN H;obtain rfl:=Option.some.inj H;go_wp2_with (first|(refine GC 12 ?_;refine GM (some 204) Try.func12 (uR.calls iC _ _ l1 jv jw _ (CW (Kd.aQ HR1.out HB.out)) HC1.out A72.out) ?_;rintro e aGe ⟨YF,rfl,ho0,hb⟩;refine ⟨_,rfl,?_⟩;have aR:=AM (Kd.bD ho0 (BZ BB));replace HB:=HS hb;try clear hb ho0;obtain ⟨aDD,aDE,avE⟩:=Kd.bG aR.out;subst avE)|(refine GC 13 ?_;refine GM (some 210) Try.func13 (iJ.calls iC jv _ _ jw Hg true _ (CW (Kd.aA aR.out).2.2) ((Kd.aA aR.out).2.1) A73.out) ?_;rintro e aGf ⟨rfl,hb⟩;refine ⟨_,rfl,?_⟩;replace aR:=RB aR hb;replace HB:=HS hb;try clear hb)|(refine GC 14 ?_;refine GM (some 216) Try.func14 (iE.calls iC jv _ _ jw UA Hl _ (CW (Kd.aA aR.out).2.2) ((Kd.aA aR.out).2.1) A74.out) ?_;rintro e aGg ⟨rfl,hb⟩;refine ⟨_,rfl,?_⟩;replace aR:=RB aR hb;replace HB:=HS hb;try clear hb)|(refine GC 15 ?_;refine GM (some 222) Try.func15 (tL.calls iC jv _ _ jw yQ BA _ (CW (Kd.aA aR.out).2.2) ((Kd.aA aR.out).2.1) A75.out) ?_;rintro e aGh ⟨YG,rfl,ho0,hb⟩;refine ⟨_,rfl,?_⟩;have dQ:=AM (Kd.bD (Kd.dM ho0 (Kd.bJ (KR aR))) (BZ BB));replace aR:=RO aR ho0 hb;replace HB:=HS hb;try clear hb ho0)|(refine GC 16 ?_;refine GM (some 228) Try.func16 (tN.calls iC jv _ _ jw Dl Ho _ (CW (Kd.aA aR.out).2.2) ((Kd.aA aR.out).2.1) A76.out) ?_;rintro e aGi ⟨YH,rfl,ho0,hb⟩;refine ⟨_,rfl,?_⟩;have gW:=AM (Kd.bD (Kd.dM (Kd.dM ho0 (Kd.bJ (KR aR))) (Kd.bJ (KR dQ))) (BZ BB));replace aR:=RO aR ho0 hb;replace dQ:=RO dQ ho0 hb;replace HB:=HS hb;try clear hb ho0)|(refine GC 17 ?_;refine GM (some 234) Try.func17 (bq.calls iC jv _ _ jw UC BD _ (CW (Kd.aA aR.out).2.2) ((Kd.aA aR.out).2.1) A77.out) ?_;rintro e aGj ⟨rfl,hb⟩;refine ⟨_,rfl,?_⟩;replace aR:=RB aR hb;replace dQ:=RB dQ hb;replace gW:=RB gW hb;replace HB:=HS hb;try clear hb)|(refine GC 18 ?_;refine GM (some 240) Try.func18 (bN.calls iC jv _ _ jw UD Hq _ (CW (Kd.aA aR.out).2.2) ((Kd.aA aR.out).2.1) A78.out) ?_;rintro e aGk ⟨rfl,hb⟩;refine ⟨_,rfl,?_⟩;replace aR:=RB aR hb;replace dQ:=RB dQ hb;replace gW:=RB gW hb;replace HB:=HS hb;try clear hb)|(refine GC 19 ?_;refine GM (some 246) Try.func19 (tJ.calls iC jv _ _ jw afS false _ (CW (Kd.aA aR.out).2.2) ((Kd.aA aR.out).2.1) A79.out) ?_;rintro e aGl ⟨rfl,hb⟩;refine ⟨_,rfl,?_⟩;replace aR:=RB aR hb;replace dQ:=RB dQ hb;replace gW:=RB gW hb;replace HB:=HS hb;try clear hb;obtain ⟨aDF,aDG,avF⟩:=Kd.bG dQ.out;subst avF;obtain ⟨aDH,aDI,avG⟩:=Kd.bG gW.out;subst avG)|(go_at_call 10;(with_reducible refine (je.calls iC _ _ yQ _ _ Dl true _ (CW (Kd.aA dQ.out).2.2) ((Kd.aA dQ.out).2.1) (CW (Kd.aA gW.out).2.2) ((Kd.aA gW.out).2.1) A83.out).mono ?_);rintro e w' ⟨rfl,⟨nd,rfl⟩⟩)|(go_at_call 20;(with_reducible refine (mM.calls iC _ _ yQ Hg true _ (CW (Kd.aA dQ.out).2.2) ((Kd.aA dQ.out).2.1) A90.out).mono ?_);rintro e w' ⟨rfl,⟨nd,rfl⟩⟩));go_ret;exact ⟨RE,BB⟩
        ·replace c89:=NF c89;subst c89;replace H:=IN H;by_cases c127 : Hr = true
         ·subst c127;replace H:=IP H;replace H:=IE H;obtain ⟨rfl,H⟩:=H;obtain rfl:=Option.some.inj H;go_wp2_with (first|(refine GC 12 ?_;refine GM (some 204) Try.func12 (uR.calls iC _ _ l1 jv jw _ (CW (Kd.aQ HR1.out HB.out)) HC1.out A72.out) ?_;rintro e aGm ⟨YF,rfl,ho0,hb⟩;refine ⟨_,rfl,?_⟩;have aR:=AM (Kd.bD ho0 (BZ BB));replace HB:=HS hb;try clear hb ho0;obtain ⟨aDJ,aDK,avH⟩:=Kd.bG aR.out;subst avH)|(refine GC 13 ?_;refine GM (some 210) Try.func13 (iJ.calls iC jv _ _ jw Hg false _ (CW (Kd.aA aR.out).2.2) ((Kd.aA aR.out).2.1) A73.out) ?_;rintro e aGn ⟨rfl,hb⟩;refine ⟨_,rfl,?_⟩;replace aR:=RB aR hb;replace HB:=HS hb;try clear hb)|(refine GC 14 ?_;refine GM (some 216) Try.func14 (iE.calls iC jv _ _ jw UA Hl _ (CW (Kd.aA aR.out).2.2) ((Kd.aA aR.out).2.1) A74.out) ?_;rintro e aGo ⟨rfl,hb⟩;refine ⟨_,rfl,?_⟩;replace aR:=RB aR hb;replace HB:=HS hb;try clear hb)|(refine GC 15 ?_;refine GM (some 222) Try.func15 (tL.calls iC jv _ _ jw yQ BA _ (CW (Kd.aA aR.out).2.2) ((Kd.aA aR.out).2.1) A75.out) ?_;rintro e aGp ⟨YG,rfl,ho0,hb⟩;refine ⟨_,rfl,?_⟩;have dQ:=AM (Kd.bD (Kd.dM ho0 (Kd.bJ (KR aR))) (BZ BB));replace aR:=RO aR ho0 hb;replace HB:=HS hb;try clear hb ho0)|(refine GC 16 ?_;refine GM (some 228) Try.func16 (tN.calls iC jv _ _ jw Dl Ho _ (CW (Kd.aA aR.out).2.2) ((Kd.aA aR.out).2.1) A76.out) ?_;rintro e aGq ⟨YH,rfl,ho0,hb⟩;refine ⟨_,rfl,?_⟩;have gW:=AM (Kd.bD (Kd.dM (Kd.dM ho0 (Kd.bJ (KR aR))) (Kd.bJ (KR dQ))) (BZ BB));replace aR:=RO aR ho0 hb;replace dQ:=RO dQ ho0 hb;replace HB:=HS hb;try clear hb ho0)|(refine GC 17 ?_;refine GM (some 234) Try.func17 (bq.calls iC jv _ _ jw UC BD _ (CW (Kd.aA aR.out).2.2) ((Kd.aA aR.out).2.1) A77.out) ?_;rintro e aGr ⟨rfl,hb⟩;refine ⟨_,rfl,?_⟩;replace aR:=RB aR hb;replace dQ:=RB dQ hb;replace gW:=RB gW hb;replace HB:=HS hb;try clear hb)|(refine GC 18 ?_;refine GM (some 240) Try.func18 (bN.calls iC jv _ _ jw UD Hq _ (CW (Kd.aA aR.out).2.2) ((Kd.aA aR.out).2.1) A78.out) ?_;rintro e aGs ⟨rfl,hb⟩;refine ⟨_,rfl,?_⟩;replace aR:=RB aR hb;replace dQ:=RB dQ hb;replace gW:=RB gW hb;replace HB:=HS hb;try clear hb)|(refine GC 19 ?_;refine GM (some 246) Try.func19 (tJ.calls iC jv _ _ jw false true _ (CW (Kd.aA aR.out).2.2) ((Kd.aA aR.out).2.1) A79.out) ?_;rintro e aGt ⟨rfl,hb⟩;refine ⟨_,rfl,?_⟩;replace aR:=RB aR hb;replace dQ:=RB dQ hb;replace gW:=RB gW hb;replace HB:=HS hb;try clear hb;obtain ⟨aDL,aDM,avI⟩:=Kd.bG dQ.out;subst avI;obtain ⟨aDN,aDO,avJ⟩:=Kd.bG gW.out;subst avJ)|(go_at_call 10;(with_reducible refine (je.calls iC _ _ yQ _ _ Dl true _ (CW (Kd.aA dQ.out).2.2) ((Kd.aA dQ.out).2.1) (CW (Kd.aA gW.out).2.2) ((Kd.aA gW.out).2.1) A83.out).mono ?_);rintro e w' ⟨rfl,⟨nd,rfl⟩⟩));go_ret;exact ⟨RE,BB⟩
         ·replace c127:=NF c127;subst c127;replace H:=IN H;obtain rfl:=Option.some.inj H;go_wp2_with (first|(refine GC 12 ?_;refine GM (some 204) Try.func12 (uR.calls iC _ _ l1 jv jw _ (CW (Kd.aQ HR1.out HB.out)) HC1.out A72.out) ?_;rintro e aGu ⟨YF,rfl,ho0,hb⟩;refine ⟨_,rfl,?_⟩;have aR:=AM (Kd.bD ho0 (BZ BB));replace HB:=HS hb;try clear hb ho0;obtain ⟨aDP,aDQ,avK⟩:=Kd.bG aR.out;subst avK)|(refine GC 13 ?_;refine GM (some 210) Try.func13 (iJ.calls iC jv _ _ jw Hg false _ (CW (Kd.aA aR.out).2.2) ((Kd.aA aR.out).2.1) A73.out) ?_;rintro e aGv ⟨rfl,hb⟩;refine ⟨_,rfl,?_⟩;replace aR:=RB aR hb;replace HB:=HS hb;try clear hb)|(refine GC 14 ?_;refine GM (some 216) Try.func14 (iE.calls iC jv _ _ jw UA Hl _ (CW (Kd.aA aR.out).2.2) ((Kd.aA aR.out).2.1) A74.out) ?_;rintro e aGw ⟨rfl,hb⟩;refine ⟨_,rfl,?_⟩;replace aR:=RB aR hb;replace HB:=HS hb;try clear hb)|(refine GC 15 ?_;refine GM (some 222) Try.func15 (tL.calls iC jv _ _ jw yQ BA _ (CW (Kd.aA aR.out).2.2) ((Kd.aA aR.out).2.1) A75.out) ?_;rintro e aGx ⟨YG,rfl,ho0,hb⟩;refine ⟨_,rfl,?_⟩;have dQ:=AM (Kd.bD (Kd.dM ho0 (Kd.bJ (KR aR))) (BZ BB));replace aR:=RO aR ho0 hb;replace HB:=HS hb;try clear hb ho0)|(refine GC 16 ?_;refine GM (some 228) Try.func16 (tN.calls iC jv _ _ jw Dl Ho _ (CW (Kd.aA aR.out).2.2) ((Kd.aA aR.out).2.1) A76.out) ?_;rintro e aGy ⟨YH,rfl,ho0,hb⟩;refine ⟨_,rfl,?_⟩;have gW:=AM (Kd.bD (Kd.dM (Kd.dM ho0 (Kd.bJ (KR aR))) (Kd.bJ (KR dQ))) (BZ BB));replace aR:=RO aR ho0 hb;replace dQ:=RO dQ ho0 hb;replace HB:=HS hb;try clear hb ho0)|(refine GC 17 ?_;refine GM (some 234) Try.func17 (bq.calls iC jv _ _ jw UC BD _ (CW (Kd.aA aR.out).2.2) ((Kd.aA aR.out).2.1) A77.out) ?_;rintro e aGz ⟨rfl,hb⟩;refine ⟨_,rfl,?_⟩;replace aR:=RB aR hb;replace dQ:=RB dQ hb;replace gW:=RB gW hb;replace HB:=HS hb;try clear hb)|(refine GC 18 ?_;refine GM (some 240) Try.func18 (bN.calls iC jv _ _ jw UD Hq _ (CW (Kd.aA aR.out).2.2) ((Kd.aA aR.out).2.1) A78.out) ?_;rintro e aGA ⟨rfl,hb⟩;refine ⟨_,rfl,?_⟩;replace aR:=RB aR hb;replace dQ:=RB dQ hb;replace gW:=RB gW hb;replace HB:=HS hb;try clear hb)|(refine GC 19 ?_;refine GM (some 246) Try.func19 (tJ.calls iC jv _ _ jw afS false _ (CW (Kd.aA aR.out).2.2) ((Kd.aA aR.out).2.1) A79.out) ?_;rintro e aGB ⟨rfl,hb⟩;refine ⟨_,rfl,?_⟩;replace aR:=RB aR hb;replace dQ:=RB dQ hb;replace gW:=RB gW hb;replace HB:=HS hb;try clear hb;obtain ⟨aDR,aDS,avL⟩:=Kd.bG dQ.out;subst avL;obtain ⟨aDT,aDU,avM⟩:=Kd.bG gW.out;subst avM)|(go_at_call 10;(with_reducible refine (je.calls iC _ _ yQ _ _ Dl true _ (CW (Kd.aA dQ.out).2.2) ((Kd.aA dQ.out).2.1) (CW (Kd.aA gW.out).2.2) ((Kd.aA gW.out).2.1) A83.out).mono ?_);rintro e w' ⟨rfl,⟨nd,rfl⟩⟩));go_ret;exact ⟨RE,BB⟩

def bH.Pure : Prop:=∀ (l0 : List Int) (l1 : List Int),l0.length ≤ maxLen→l0.length * 1 ≤ 140737488351232→(∀ x ∈ l0,(Lit.int .u8 x).wf = true)→l1.length ≤ maxLen→l1.length * 1 ≤ 140737488351232→(∀ x ∈ l1,(Lit.int .u8 x).wf = true)→∃ k,bH.f k l0 l1 = some true
theorem bH.walk (P : bH.Pure) (a0 : Option Addr) (Gp cap0 : Nat) (z0 : List Int) (a1 : Option Addr) (len1 Gq : Nat) (z1 : List Int) (w : World) (w0 : (a0 = none∧Gp = 0∧cap0 = 0∧z0 = []) ∨ ∃ x,a0 = some x∧Gp ≤ cap0∧cap0 ≤ maxLen∧z0.length = cap0∧(∀ i,i < z0.length→w.cell? (x.add i) = some (.int .u8 (z0.getD i 0)))∧∀ n ∈ z0,(Lit.int .u8 n).wf = true) (y0 : Gp * 1 ≤ 140737488351232) (w1 : (a1 = none∧len1 = 0∧Gq = 0∧z1 = []) ∨ ∃ x,a1 = some x∧len1 ≤ Gq∧Gq ≤ maxLen∧z1.length = Gq∧(∀ i,i < z1.length→w.cell? (x.add i) = some (.int .u8 (z1.getD i 0)))∧∀ n ∈ z1,(Lit.int .u8 n).wf = true) (y1 : len1 * 1 ≤ 140737488351232) :
  Calls Try.prog 3 #[.slice a0 Gp cap0,.slice a1 len1 Gq] w fun e w'=>e = .returned (.bool true)∧Below w.heap.size w w':=by
 obtain ⟨l0,rfl,hr0,hm0,hw0,hc0⟩:=mO.ajU w0;obtain ⟨l1,rfl,hr1,hm1,hw1,hc1⟩:=mO.ajU w1;obtain ⟨k,h⟩:=P l0 l1 hm0 y0 hw0 hm1 y1 hw1;refine (bH.calls k _ _ l0 _ _ l1 true w (Kd.Zd (d:=(0 : Int)) (h1:=fun _=>rfl) hr0) hc0 (Kd.Zd (d:=(0 : Int)) (h1:=fun _=>rfl) hr1) hc1 h).mono ?_;rintro e w' ⟨rfl,hd⟩;exact ⟨rfl,hd⟩

end Go.Proofs.Ythaonijhfeemfaa.dL
