-- Written by a program of this session (wip/tools/pp.sh) out of the translation; Lean checks it.
import Derived.Test.YthaonijhfeemfaaPFnWalksEndFullx2
import Derived.Test.YthaonijhfeemfaaPFnWalksEndFullx11
namespace Go.Proofs.Ythaonijhfeemfaa.dL
open Go.RowKit Go.Proofs.YthaonijhfeemfaaOwn Go.Proofs.YthaonijhfeemfaaW.bU Go.Proofs.YthaonijhfeemfaaW.fB Go.Proofs.YthaonijhfeemfaaW.iw
attribute [local go_sem] nG nH nK nL nD nE nI nJ   -- for this text's walks alone
set_option linter.unusedVariables false
set_option maxHeartbeats 8000000
set_option maxRecDepth 100000
set_option linter.unusedSimpArgs false

def gZ.l0 : Nat→Int→Int→List (List Int)→Int→Int→Option (Bool)
 | 0,_,_,_,_,_=>none
 | k + 1,x2,x3,x17,x18,x19=>if x19 < x18 then (if 0 ≤ x19 then (if x19 < (x17.length : Int) then (if 0 < ((ah x17 x19).length : Int) then (if 1 < ((ah x17 x19).length : Int) then ((oF.f (rd (ah x17 x19) 0) (rd (ah x17 x19) 1)).bind fun GJ=>((oF.f x2 x3).bind fun GK=>((jk.f k GJ GK).bind fun ael=>(if ael = true then (some true) else (gZ.l0 k x2 x3 x17 x18 (wrap64 (x19 + 1))))))) else (none)) else (none)) else (none)) else (none)) else (some false)
def gZ.f (k : Nat) (a0 : Int) (l1 : List Int) (a2 : Int) (a3 : Int) : Option (Bool):=(gG.f k a0 l1).bind fun TH=>(if TH = true then ((fu.f k a0 l1).bind fun jL=>(gZ.l0 k a2 a3 jL (jL.length : Int) 0)) else (some false))
theorem gZ.bC : ∀ k,(∀ y0 y1 y2 y3 y4,LeO (gZ.l0 k y0 y1 y2 y3 y4) (gZ.l0 (k + 1) y0 y1 y2 y3 y4))
 | 0=>fun _ _ _ _ _ r h=>by simp [gZ.l0] at h
 | k + 1=>by
  have ih0:=gZ.bC k
  ·intro y0 y1 y2 y3 y4
   unfold gZ.l0
   have m0:=@fu.mono
   have m1:=@jk.mono
   have m2:=@gG.mono
   exact MO
theorem gZ.mono : ∀ a0 a1 a2 a3 k,LeO (gZ.f k a0 a1 a2 a3) (gZ.f (k + 1) a0 a1 a2 a3):=by
 intro a0 a1 a2 a3 k;have ih0:=gZ.bC k;unfold gZ.f
 have m0:=@fu.mono
 have m1:=@jk.mono
 have m2:=@gG.mono
 exact MO
def gZ.T6 : Bool × List (List Nat × List Nat):=(true,[([],[]),([0],[0]),([1],[1]),([],[]),([3],[3]),([4],[4]),([2,5],[2,5]),([],[]),([],[]),([7,8,6],[7,8]),([6,9,9],[6,9])])
def gZ.B6 : List Nat:=[0,1,3,0,8,24,63,0,0,511,1023]
theorem gZ.amm : fC .any (opsOf Try.f25 6) = gZ.T6:=by kernel_rfl
theorem gZ.akQ : lN gZ.T6.2 gZ.B6 = true:=by kernel_rfl
theorem gZ.calls (k : Nat) (a0 : Int) (A1 : Option Addr) (c1 : Nat) (l1 : List Int) (a2 : Int) (a3 : Int) (r : Bool) (w : World) (hr1 : Kd.C (Kd.int .i64) w A1 l1.length l1) (hc1 : l1.length ≤ c1) (h : gZ.f k a0 l1 a2 a3 = some r) :
  Calls Try.prog 25 #[.int .i64 a0,.slice A1 l1.length c1,.int .i64 a2,.int .i64 a3] w fun e w'=>e = .returned (.bool r)∧Below w.heap.size w w':=by
 have HR1:=AM hr1;have HC1:=AM hc1;clear hr1 hc1;have HB:=HRf w;have H : ((gG.f k a0 l1).bind fun TH=>(if TH = true then ((fu.f k a0 l1).bind fun jL=>(gZ.l0 k a2 a3 jL (jL.length : Int) 0)) else (some false))) = some r:=h;clear h;replace H:=EA H;obtain ⟨TH,A5,H⟩:=H;by_cases c6 : TH = true
 ·subst c6;replace H:=IP H;replace H:=EA H;obtain ⟨jL,A7,H⟩:=H;have H':=AM H;clear H;go_enter Try.func25,Try.ntmps25;go_wp2_with (first|(refine GC 38 ?_;refine GM (some 13) Try.func38 (gG.calls k a0 _ _ l1 true _ (CW HR1.out) HC1.out A5.out) ?_;rintro e w' ⟨rfl,⟨nd,rfl⟩⟩;refine ⟨_,rfl,?_⟩)|(refine GC 32 ?_;refine GM (some 17) Try.func32 (fu.calls k a0 _ _ l1 jL _ (CW HR1.out) HC1.out A7.out) ?_;rintro e w8 ⟨aER,rfl,ho0,hb⟩;refine ⟨_,rfl,?_⟩;have akR:=AM (Kd.jG ho0 (BZ BB));replace HB:=HS hb;try clear hb ho0;obtain ⟨Ao9,co9,eo9⟩:=Kd.jC akR.out;subst eo9));go_loopg [19] k (fun kq v19 w'=>∃ (bO : Int),v19 = .int .i64 bO∧ak (gZ.l0 kq a2 a3 jL (jL.length : Int) bO = some r)∧ak (kq ≤ k)∧ak (Kd.S (Kd.slice 3 (Kd.int .i64)) 24 w' w.heap.size (fun _=>True) (.slice Ao9 jL.length co9) jL)∧ak (Below w.heap.size w w'))
  case atStart=>exact ⟨(0),RF,H',⟨Nat.le_refl _⟩,⟨KS akR⟩,⟨BB⟩⟩
  case round =>
   clear H';try clear c1
   try clear c2
   try clear p2
   try clear c3
   try clear c6
   try clear p6
   obtain ⟨bO,rfl,HA,HK1,oP,HB⟩:=hrel;cases gk with
   | zero=>exact absurd HA.out (by simp [gZ.l0])
   | succ k1 =>
    have H:=HA.out;clear HA;simp only [gZ.l0] at H;by_cases c10 : bO < (jL.length : Int)
    ·rw [if_pos c10] at H;have mE:=DT c10;clear c10;replace H:=IC H;obtain ⟨c11,H⟩:=H;have qK:=DT c11;clear c11;replace H:=IC H;obtain ⟨c12,H⟩:=H;have rQ:=DT c12;clear c12;replace H:=IC H;obtain ⟨c13,H⟩:=H;have D6:=DT c13;have WC : decide (0 < (ah jL bO).length) = true:=DT (by omega);clear c13;replace H:=IC H;obtain ⟨c14,H⟩:=H;have uj:=DT c14;have R4 : decide (1 < (ah jL bO).length) = true:=DT (by omega);clear c14;replace H:=EA H;obtain ⟨GJ,A15,H⟩:=H;replace H:=EA H;obtain ⟨GK,A16,H⟩:=H;replace H:=EA H;obtain ⟨ael,A17,H⟩:=H;by_cases c18 : ael = true
     ·subst c18;replace H:=IP H;obtain rfl:=Option.some.inj H;have Ez : 0 ≤ (bO : Int):=OD AS;have EB : bO < (jL.length : Int):=OD AS;obtain ⟨atz,arO,arP,aem,Z0,MS,Qi⟩:=gT (Kd.bW oP.out).2.2 bO Ez EB;cases aem;obtain ⟨atA,aa9,abb,Rw⟩:=Kd.ny oP.out [] bO Ez (by first|exact EB|exact OD AS|(have e_:=(Kd.bW oP.out).1;omega));obtain ⟨apL,rfl,Iq⟩:=abb;have zR:=Rw 0 _ rfl;rw [Nat.add_zero,show ((Kd.slice 3 (Kd.int .i64))).sz = 1 from rfl,Nat.mul_one] at zR;replace zR:=Option.some.inj (zR.symm.trans Z0);rw [zR] at Iq;have rO:=AM (show Kd.R (Kd.int .i64) 3 _ _ _ _ (ah jL bO) from Iq);clear zR Iq;clear Rw aa9;have rP:=AM Qi;have apM:=AM MS;clear Qi MS;replace Ez:=ET Ez;replace EB:=ET EB;try go_wp2
      replace oP:=AM (Kd.dB oP.out);replace rO:=AM (Kd.bF rO.out);replace rP:=AM (Kd.sM rP.out);replace HB:=AM (fA HB.out);have Kq : 0 ≤ (0 : Int):=(by omega);have Kr : 0 < ((ah jL bO).length : Int):=OD AS;obtain ⟨D7,aen,DC⟩:=Kd.aN (CX rP) 0 Kq Kr;cases aen;have atB : (0 < (ah jL bO).length) = True:=ET (by omega)
      (try rw [show ((0 : Int)).toNat = 0 from rfl] at DC)
      (try rw [Addr.add_zero'] at DC);replace Kq:=ET Kq;replace Kr:=ET Kr;have Kt : 0 ≤ (1 : Int):=(by omega);have Ku : 1 < ((ah jL bO).length : Int):=OD AS;obtain ⟨acn,aeo,DI⟩:=Kd.aN (CX rP) 1 Kt Ku;obtain rfl : D7 = acn:=(by injection aeo)
      (try simp only [show (1 : Int).toNat = 1 from rfl,Nat.reduceMul,Nat.reduceEqDiff,Go.Addr.add,↓reduceIte] at DI);have atC : (1 < (ah jL bO).length) = True:=ET (by omega)
      (try rw [show ((1 : Int)).toNat = 1 from rfl] at DI);replace Kt:=ET Kt;replace Ku:=ET Ku;refine PSt (n:=11) (S:=fun w'=>w'.cell? D7 = some (.int .i64 (rd (ah jL bO) 0))∧w'.cell? ⟨D7.block,D7.off + 1,none⟩ = some (.int .i64 (rd (ah jL bO) 1))) (ds:=[]) ⟨DC,DI⟩ (fun hHeld=>?_);refine lK gZ.amm gZ.akQ (fun HT_ HW_=>?_);generalize wr.drew = w19 at oP rO rP HB DC DI hHeld ⊢;refine PA 0 23 HT_ ?_;refine PA 1 24 HT_ ?_;refine PA 3 26 HT_ ?_;refine PA 4 27 HT_ ?_;refine PA 7 30 HT_ ?_;refine PA 8 31 HT_ ?_;refine PB 2 25 HT_ HW_ hHeld ?_;refine PB 5 28 HT_ HW_ hHeld ?_;refine PC 6 29 HT_ (fun K hK=>?_);refine iL Try.func34 (by kernel_rfl) rfl #[.int .i64 (rd (ah jL bO) 0),.int .i64 (rd (ah jL bO) 1)] (by rfl) rfl rfl TA ?_;with_reducible refine (oF.calls (rd (ah jL bO) 0) (rd (ah jL bO) 1) GJ _ A15.out).mono ?_;rintro e w20 ⟨aw7,rfl,ho0,hb⟩;have mX:=LD hb hHeld.1;have qd:=LD hb hHeld.2;refine ⟨_,rfl,?_⟩;replace oP:=SO oP ho0 hb;have yF:=AM (Kd.bD (Kd.dM ho0 (Kd.bJ (KR rO))) (BZ BB));replace rO:=RO rO ho0 hb;replace rP:=AM (Kd.aQ (CX rP) hb);replace HB:=HS hb;try clear hb ho0
      refine hK.out _ _ ⟨mX,qd⟩ (fun hHeld=>?_);clear hK K;refine iy (a':=?_) ?_ ?_;rotate_left
      ·show Act.put _ (some 29) _ = _;simp only [Act.put,List.setIfInBounds_toArray,List.set_cons_zero,List.set_cons_succ,dJ,eX];rfl
      refine PC 9 32 HT_ (fun K hK=>?_);refine iL Try.func34 (by kernel_rfl) rfl #[.int .i64 a2,.int .i64 a3] (by rfl) rfl rfl TA ?_;with_reducible refine (oF.calls a2 a3 GK _ A16.out).mono ?_;rintro e w21 ⟨aw8,rfl,ho0,hb⟩;have mX:=LD hb hHeld.1;have qd:=LD hb hHeld.2;refine ⟨_,rfl,?_⟩;replace oP:=SO oP ho0 hb;have Jy:=AM (Kd.bD (Kd.dM (Kd.dM ho0 (Kd.bJ (KR rO))) (Kd.bJ (KR yF))) (BZ BB));replace rO:=RO rO ho0 hb;replace yF:=RO yF ho0 hb;replace rP:=AM (Kd.aQ (CX rP) hb);replace HB:=HS hb;try clear hb ho0
      obtain ⟨wF,vB,Ka⟩:=Kd.bG yF.out
      (first|subst Ka|(injection Ka with f1_ f2_ f3_;have f4_:=f1_.symm;have f5_:=f3_.symm;clear f1_ f2_ f3_;subst f4_;subst f5_));obtain ⟨vC,uI,Gz⟩:=Kd.bG Jy.out
      (first|subst Gz|(injection Gz with f1_ f2_ f3_;have f4_:=f1_.symm;have f5_:=f3_.symm;clear f1_ f2_ f3_;subst f4_;subst f5_));refine hK.out _ _ ⟨mX,qd⟩ (fun hHeld=>?_);clear hK K;refine iy (a':=?_) ?_ ?_;rotate_left
      ·show Act.put _ (some 32) _ = _;simp only [Act.put,List.setIfInBounds_toArray,List.set_cons_zero,List.set_cons_succ,dJ,eX];rfl
      refine PC 10 33 HT_ (fun K hK=>?_);refine iL Try.func33 (by kernel_rfl) rfl #[.slice wF GJ.length vB,.slice vC GK.length uI] (by rfl) rfl rfl TA ?_;with_reducible refine (jk.calls k1 _ _ GJ _ _ GK true _ ?aU ?aV ?eu ?eB A17.out).mono ?_
      (case aU=>exact CW (Kd.aA yF.out).2.2)
      (case aV=>exact (Kd.aA yF.out).2.1)
      (case eu=>exact CW (Kd.aA Jy.out).2.2)
      (case eB=>exact (Kd.aA Jy.out).2.1);rintro e w' ⟨rfl,⟨nd,rfl⟩⟩;refine ⟨_,rfl,?_⟩;refine hK.out _ _ ⟨hHeld.1,hHeld.2⟩ (fun hHeld=>?_);clear hK K;refine iy (a':=?_) ?_ ?_;rotate_left
      ·show Act.put _ (some 33) _ = _;simp only [Act.put,List.setIfInBounds_toArray,List.set_cons_zero,List.set_cons_succ,dJ,eX];rfl
      refine l8 (l5 HT_.out (by kernel_rfl)) ?_;try go_wp2
      go_ret;exact ⟨RE,BB⟩
     ·replace c18:=NF c18;subst c18;replace H:=IN H;have H':=AM H;clear H;have Ez : 0 ≤ (bO : Int):=OD AS;have EB : bO < (jL.length : Int):=OD AS;obtain ⟨atz,arO,arP,aem,Z0,MS,Qi⟩:=gT (Kd.bW oP.out).2.2 bO Ez EB;cases aem;obtain ⟨atA,aa9,abb,Rw⟩:=Kd.ny oP.out [] bO Ez (by first|exact EB|exact OD AS|(have e_:=(Kd.bW oP.out).1;omega));obtain ⟨apL,rfl,Iq⟩:=abb;have zR:=Rw 0 _ rfl;rw [Nat.add_zero,show ((Kd.slice 3 (Kd.int .i64))).sz = 1 from rfl,Nat.mul_one] at zR;replace zR:=Option.some.inj (zR.symm.trans Z0);rw [zR] at Iq;have rO:=AM (show Kd.R (Kd.int .i64) 3 _ _ _ _ (ah jL bO) from Iq);clear zR Iq;clear Rw aa9;have rP:=AM Qi;have apM:=AM MS;clear Qi MS;replace Ez:=ET Ez;replace EB:=ET EB;try go_wp2
      replace oP:=AM (Kd.dB oP.out);replace rO:=AM (Kd.bF rO.out);replace rP:=AM (Kd.sM rP.out);replace HB:=AM (fA HB.out);have Kq : 0 ≤ (0 : Int):=(by omega);have Kr : 0 < ((ah jL bO).length : Int):=OD AS;obtain ⟨D7,aen,DC⟩:=Kd.aN (CX rP) 0 Kq Kr;cases aen;have atB : (0 < (ah jL bO).length) = True:=ET (by omega)
      (try rw [show ((0 : Int)).toNat = 0 from rfl] at DC)
      (try rw [Addr.add_zero'] at DC);replace Kq:=ET Kq;replace Kr:=ET Kr;have Kt : 0 ≤ (1 : Int):=(by omega);have Ku : 1 < ((ah jL bO).length : Int):=OD AS;obtain ⟨acn,aeo,DI⟩:=Kd.aN (CX rP) 1 Kt Ku;obtain rfl : D7 = acn:=(by injection aeo)
      (try simp only [show (1 : Int).toNat = 1 from rfl,Nat.reduceMul,Nat.reduceEqDiff,Go.Addr.add,↓reduceIte] at DI);have atC : (1 < (ah jL bO).length) = True:=ET (by omega)
      (try rw [show ((1 : Int)).toNat = 1 from rfl] at DI);replace Kt:=ET Kt;replace Ku:=ET Ku;refine PSt (n:=11) (S:=fun w'=>w'.cell? D7 = some (.int .i64 (rd (ah jL bO) 0))∧w'.cell? ⟨D7.block,D7.off + 1,none⟩ = some (.int .i64 (rd (ah jL bO) 1))) (ds:=[]) ⟨DC,DI⟩ (fun hHeld=>?_);refine lK gZ.amm gZ.akQ (fun HT_ HW_=>?_);generalize wr.drew = w24 at oP rO rP HB DC DI hHeld ⊢;refine PA 0 23 HT_ ?_;refine PA 1 24 HT_ ?_;refine PA 3 26 HT_ ?_;refine PA 4 27 HT_ ?_;refine PA 7 30 HT_ ?_;refine PA 8 31 HT_ ?_;refine PB 2 25 HT_ HW_ hHeld ?_;refine PB 5 28 HT_ HW_ hHeld ?_;refine PC 6 29 HT_ (fun K hK=>?_);refine iL Try.func34 (by kernel_rfl) rfl #[.int .i64 (rd (ah jL bO) 0),.int .i64 (rd (ah jL bO) 1)] (by rfl) rfl rfl TA ?_;with_reducible refine (oF.calls (rd (ah jL bO) 0) (rd (ah jL bO) 1) GJ _ A15.out).mono ?_;rintro e w25 ⟨aw7,rfl,ho0,hb⟩;have mX:=LD hb hHeld.1;have qd:=LD hb hHeld.2;refine ⟨_,rfl,?_⟩;replace oP:=SO oP ho0 hb;have yF:=AM (Kd.bD (Kd.dM ho0 (Kd.bJ (KR rO))) (BZ BB));replace rO:=RO rO ho0 hb;replace rP:=AM (Kd.aQ (CX rP) hb);replace HB:=HS hb;try clear hb ho0
      refine hK.out _ _ ⟨mX,qd⟩ (fun hHeld=>?_);clear hK K;refine iy (a':=?_) ?_ ?_;rotate_left
      ·show Act.put _ (some 29) _ = _;simp only [Act.put,List.setIfInBounds_toArray,List.set_cons_zero,List.set_cons_succ,dJ,eX];rfl
      refine PC 9 32 HT_ (fun K hK=>?_);refine iL Try.func34 (by kernel_rfl) rfl #[.int .i64 a2,.int .i64 a3] (by rfl) rfl rfl TA ?_;with_reducible refine (oF.calls a2 a3 GK _ A16.out).mono ?_;rintro e w26 ⟨aw8,rfl,ho0,hb⟩;have mX:=LD hb hHeld.1;have qd:=LD hb hHeld.2;refine ⟨_,rfl,?_⟩;replace oP:=SO oP ho0 hb;have Jy:=AM (Kd.bD (Kd.dM (Kd.dM ho0 (Kd.bJ (KR rO))) (Kd.bJ (KR yF))) (BZ BB));replace rO:=RO rO ho0 hb;replace yF:=RO yF ho0 hb;replace rP:=AM (Kd.aQ (CX rP) hb);replace HB:=HS hb;try clear hb ho0
      obtain ⟨GN,EC,Bg⟩:=Kd.bG yF.out
      (first|subst Bg|(injection Bg with f1_ f2_ f3_;have f4_:=f1_.symm;have f5_:=f3_.symm;clear f1_ f2_ f3_;subst f4_;subst f5_));obtain ⟨aep,aer,Kv⟩:=Kd.bG Jy.out
      (first|subst Kv|(injection Kv with f1_ f2_ f3_;have f4_:=f1_.symm;have f5_:=f3_.symm;clear f1_ f2_ f3_;subst f4_;subst f5_));refine hK.out _ _ ⟨mX,qd⟩ (fun hHeld=>?_);clear hK K;refine iy (a':=?_) ?_ ?_;rotate_left
      ·show Act.put _ (some 32) _ = _;simp only [Act.put,List.setIfInBounds_toArray,List.set_cons_zero,List.set_cons_succ,dJ,eX];rfl
      refine PC 10 33 HT_ (fun K hK=>?_);refine iL Try.func33 (by kernel_rfl) rfl #[.slice GN GJ.length EC,.slice aep GK.length aer] (by rfl) rfl rfl TA ?_;with_reducible refine (jk.calls k1 _ _ GJ _ _ GK false _ ?aU ?aV ?eu ?eB A17.out).mono ?_
      (case aU=>exact CW (Kd.aA yF.out).2.2)
      (case aV=>exact (Kd.aA yF.out).2.1)
      (case eu=>exact CW (Kd.aA Jy.out).2.2)
      (case eB=>exact (Kd.aA Jy.out).2.1);rintro e w' ⟨rfl,⟨nd,rfl⟩⟩;refine ⟨_,rfl,?_⟩;refine hK.out _ _ ⟨hHeld.1,hHeld.2⟩ (fun hHeld=>?_);clear hK K;refine iy (a':=?_) ?_ ?_;rotate_left
      ·show Act.put _ (some 33) _ = _;simp only [Act.put,List.setIfInBounds_toArray,List.set_cons_zero,List.set_cons_succ,dJ,eX];rfl
      refine l8 (l5 HT_.out (by kernel_rfl)) ?_;try go_wp2
      go_roundg k1
      case measure=>have:=HK1.out;omega
      case rel=>exact ⟨(wrap64 (bO + 1)),RF,H',⟨by have:=HK1.out;omega⟩,⟨by (with_reducible repeat (first|apply Kd.fK|apply Kd.fM|apply Kd.dB));exact Kd.dx oP.out (fun _ hk=>trivial)⟩,⟨BB⟩⟩
    ·rw [if_neg c10] at H;have mE:=DF c10;try (have aco:=mE;rw [MS] at aco)
     clear c10;obtain rfl:=Option.some.inj H;go_wp2;go_ret;exact ⟨RE,BB⟩
 ·replace c6:=NF c6;subst c6;replace H:=IN H;obtain rfl:=Option.some.inj H;go_enter Try.func25,Try.ntmps25;go_wp2_with (first|(refine GC 38 ?_;refine GM (some 13) Try.func38 (gG.calls k a0 _ _ l1 false _ (CW HR1.out) HC1.out A5.out) ?_;rintro e w' ⟨rfl,⟨nd,rfl⟩⟩;refine ⟨_,rfl,?_⟩));go_ret;exact ⟨RE,BB⟩

def sI.f (a0 : Int) : Option (Int):=(zM.f a0 (wrap64 (-a0))).bind fun TI=>(some TI)
theorem sI.calls (a0 : Int) (r : Int) (w : World) (h : sI.f a0 = some r) :
  Calls Try.prog 86 #[.int .i64 a0] w fun e w'=>e = .returned (.int .i64 r)∧dw w w':=by
 have H : ((zM.f a0 (wrap64 (-a0))).bind fun TI=>(some TI)) = some r:=h;clear h;replace H:=EA H;obtain ⟨TI,A2,H⟩:=H;obtain rfl:=Option.some.inj H;go_enter Try.func86,Try.ntmps86;go_wp2_with (first|(refine GC 66 ?_;refine GM (some 6) Try.func66 (zM.calls a0 (wrap64 (-a0)) TI _ A2.out) ?_;rintro e w' ⟨rfl,⟨nd,rfl⟩⟩;refine ⟨_,rfl,?_⟩));go_ret;exact ⟨RF,DR⟩

def iK.l0 : Nat→List Int→List Int→Int→Int→Int→Option (Bool)
 | 0,_,_,_,_,_=>none
 | k + 1,x7,x8,x9,x18,x19=>if x19 < x18 then (if 0 ≤ x19 then (if x19 < (x7.length : Int) then (if x19 < (x8.length : Int) then ((sI.f (wrap64 ((rd x7 x19) - (rd x8 x19)))).bind fun xO=>(if xO > 1 then (some false) else (iK.l0 k x7 x8 (wrap64 (x9 + xO)) x18 (wrap64 (x19 + 1))))) else (none)) else (none)) else (none)) else (some (x9 == 2))
def iK.f (k : Nat) (a0 : Int) (a1 : Int) (a2 : Int) : Option (Bool):=(jl.f k a0 a1).bind fun mY=>((jl.f k a0 a2).bind fun qg=>(iK.l0 k mY qg 0 (mY.length : Int) 0))
theorem iK.bC : ∀ k,(∀ y0 y1 y2 y3 y4,LeO (iK.l0 k y0 y1 y2 y3 y4) (iK.l0 (k + 1) y0 y1 y2 y3 y4))
 | 0=>fun _ _ _ _ _ r h=>by simp [iK.l0] at h
 | k + 1=>by
  have ih0:=iK.bC k
  ·intro y0 y1 y2 y3 y4
   unfold iK.l0
   have m0:=@jl.mono
   exact MO
theorem iK.mono : ∀ a0 a1 a2 k,LeO (iK.f k a0 a1 a2) (iK.f (k + 1) a0 a1 a2):=by
 intro a0 a1 a2 k;have ih0:=iK.bC k;unfold iK.f
 have m0:=@jl.mono
 exact MO
theorem iK.calls (k : Nat) (a0 : Int) (a1 : Int) (a2 : Int) (r : Bool) (w : World) (h : iK.f k a0 a1 a2 = some r) :
  Calls Try.prog 58 #[.int .i64 a0,.int .i64 a1,.int .i64 a2] w fun e w'=>e = .returned (.bool r)∧Below w.heap.size w w':=by
 have HB:=HRf w;have H : ((jl.f k a0 a1).bind fun mY=>((jl.f k a0 a2).bind fun qg=>(iK.l0 k mY qg 0 (mY.length : Int) 0))) = some r:=h;clear h;replace H:=EA H;obtain ⟨mY,A4,H⟩:=H;replace H:=EA H;obtain ⟨qg,A5,H⟩:=H;have H':=AM H;clear H;go_enter Try.func58,Try.ntmps58;go_wp2_with (first|(go_at_call 85;(with_reducible refine (jl.calls k a0 a1 mY _ A4.out).mono ?_);rintro e w6 ⟨amn,rfl,ho0,hb⟩;have wm:=AM (Kd.bD ho0 (BZ BB));replace HB:=HS hb;try clear hb ho0)|(go_at_call 85;(with_reducible refine (jl.calls k a0 a2 qg _ A5.out).mono ?_);rintro e w7 ⟨XT,rfl,ho0,hb⟩;have acp:=AM (Kd.bD (Kd.dM ho0 (Kd.bJ (KR wm))) (BZ BB));replace wm:=RO wm ho0 hb;replace HB:=HS hb;try clear hb ho0;obtain ⟨Ao8,co8,eo8⟩:=Kd.bG wm.out;subst eo8));repeat (go_quiet (first|(go_at_call 85;(with_reducible refine (jl.calls k a0 a1 mY _ A4.out).mono ?_);rintro e w6 ⟨amn,rfl,ho0,hb⟩;have wm:=AM (Kd.bD ho0 (BZ BB));replace HB:=HS hb;try clear hb ho0)|(go_at_call 85;(with_reducible refine (jl.calls k a0 a2 qg _ A5.out).mono ?_);rintro e w7 ⟨XT,rfl,ho0,hb⟩;have acp:=AM (Kd.bD (Kd.dM ho0 (Kd.bJ (KR wm))) (BZ BB));replace wm:=RO wm ho0 hb;replace HB:=HS hb;try clear hb ho0;obtain ⟨Ao8,co8,eo8⟩:=Kd.bG wm.out;subst eo8));try go_wp2_with (first|(go_at_call 85;(with_reducible refine (jl.calls k a0 a1 mY _ A4.out).mono ?_);rintro e w6 ⟨amn,rfl,ho0,hb⟩;have wm:=AM (Kd.bD ho0 (BZ BB));replace HB:=HS hb;try clear hb ho0)|(go_at_call 85;(with_reducible refine (jl.calls k a0 a2 qg _ A5.out).mono ?_);rintro e w7 ⟨XT,rfl,ho0,hb⟩;have acp:=AM (Kd.bD (Kd.dM ho0 (Kd.bJ (KR wm))) (BZ BB));replace wm:=RO wm ho0 hb;replace HB:=HS hb;try clear hb ho0;obtain ⟨Ao8,co8,eo8⟩:=Kd.bG wm.out;subst eo8)))
 go_loopg [9,19] k (fun kq v9 v19 w'=>∃ (dS : Int) (bO : Int),v9 = .int .i64 dS∧v19 = .int .i64 bO∧ak (iK.l0 kq mY qg dS (mY.length : Int) bO = some r)∧ak (kq ≤ k)∧ak (Kd.R (Kd.int .i64) 3 w' w.heap.size (fun k_=>some k_≠(XT : Value).ownBlock) (.slice Ao8 mY.length co8) mY)∧ak (Kd.R (Kd.int .i64) 3 w' w.heap.size (fun k_=>some k_≠((.slice Ao8 mY.length co8) : Value).ownBlock) XT qg)∧ak (Below w.heap.size w w'))
 case atStart=>exact ⟨(0),(0),RF,RF,H',⟨Nat.le_refl _⟩,⟨by (with_reducible repeat (first|apply Kd.dh|apply Kd.dn|apply Kd.bF));exact Kd.aM wm.out (fun _ hk=>hk.2)⟩,⟨by (with_reducible repeat (first|apply Kd.dh|apply Kd.dn|apply Kd.bF));exact Kd.aM acp.out (fun _ hk=>hk.2)⟩,⟨BB⟩⟩
 case round =>
  clear H';try clear p2
  try clear c5
  try clear p6
  obtain ⟨dS,bO,rfl,rfl,HA,HK1,bf,gY,HB⟩:=hrel;cases gk with
  | zero=>exact absurd HA.out (by simp [iK.l0])
  | succ k1 =>
   have H:=HA.out;clear HA;simp only [iK.l0] at H;by_cases c9 : bO < (mY.length : Int)
   ·rw [if_pos c9] at H;have wD:=DT c9;clear c9;replace H:=IC H;obtain ⟨c10,H⟩:=H;have mE:=DT c10;clear c10;replace H:=IC H;obtain ⟨c11,H⟩:=H;have qK:=DT c11;clear c11;replace H:=IC H;obtain ⟨c12,H⟩:=H;have rQ:=DT c12;clear c12;replace H:=EA H;obtain ⟨xO,A13,H⟩:=H;by_cases c14 : xO > 1
    ·rw [if_pos c14] at H;have uj:=DT c14;clear c14;obtain rfl:=Option.some.inj H;have Kw : 0 ≤ (bO : Int):=OD AS;have Ky : bO < (mY.length : Int):=OD AS;obtain ⟨WE,aes,apN⟩:=Kd.aN (Kd.aA bf.out).2.2 bO Kw Ky;cases aes;replace Kw:=ET Kw;replace Ky:=ET Ky;obtain ⟨uK,tq,GD⟩:=Kd.bG gY.out;subst GD;have Kz : 0 ≤ (bO : Int):=OD AS;have KA : bO < (qg.length : Int):=OD AS;obtain ⟨WG,aeu,apO⟩:=Kd.aN (Kd.aA gY.out).2.2 bO Kz KA;cases aeu;replace Kz:=ET Kz;replace KA:=ET KA;go_wp2_with (first|(go_at_call 86;(with_reducible refine (sI.calls (wrap64 ((rd mY bO) - (rd qg bO))) xO _ A13.out).mono ?_);rintro e w' ⟨rfl,⟨nd,rfl⟩⟩;(try exact DW)));repeat (go_quiet (first|(go_at_call 86;(with_reducible refine (sI.calls (wrap64 ((rd mY bO) - (rd qg bO))) xO _ A13.out).mono ?_);rintro e w' ⟨rfl,⟨nd,rfl⟩⟩;(try exact DW)));try go_wp2_with (first|(go_at_call 86;(with_reducible refine (sI.calls (wrap64 ((rd mY bO) - (rd qg bO))) xO _ A13.out).mono ?_);rintro e w' ⟨rfl,⟨nd,rfl⟩⟩;(try exact DW))))
     go_ret;exact ⟨RE,BB⟩
    ·rw [if_neg c14] at H;have uj:=DF c14;clear c14;have H':=AM H;clear H;have Kw : 0 ≤ (bO : Int):=OD AS;have Ky : bO < (mY.length : Int):=OD AS;obtain ⟨WE,aes,apN⟩:=Kd.aN (Kd.aA bf.out).2.2 bO Kw Ky;cases aes;replace Kw:=ET Kw;replace Ky:=ET Ky;obtain ⟨XU,XV,KC⟩:=Kd.bG gY.out;subst KC;have Kz : 0 ≤ (bO : Int):=OD AS;have KA : bO < (qg.length : Int):=OD AS;obtain ⟨WG,aeu,apO⟩:=Kd.aN (Kd.aA gY.out).2.2 bO Kz KA;cases aeu;replace Kz:=ET Kz;replace KA:=ET KA;go_wp2_with (first|(go_at_call 86;(with_reducible refine (sI.calls (wrap64 ((rd mY bO) - (rd qg bO))) xO _ A13.out).mono ?_);rintro e w' ⟨rfl,⟨nd,rfl⟩⟩;exact DW)|(go_at_call 86;(with_reducible refine (sI.calls (wrap64 ((rd mY bO) - (rd qg bO))) xO _ A13.out).mono ?_);rintro e w' ⟨rfl,⟨nd,rfl⟩⟩;have Bh : 0 ≤ (bO : Int):=OD AS;have Bj : bO < (mY.length : Int):=OD AS;obtain ⟨R5,TJ,aiq⟩:=Kd.aN (Kd.aA bf.out).2.2 bO Bh Bj;obtain rfl : WE = R5:=(by injection TJ);replace Bh:=ET Bh;replace Bj:=ET Bj;have Bl : 0 ≤ (bO : Int):=OD AS;have Bn : bO < (qg.length : Int):=OD AS;obtain ⟨R6,TK,air⟩:=Kd.aN (Kd.aA gY.out).2.2 bO Bl Bn;obtain rfl : WG = R6:=(by injection TK);replace Bl:=ET Bl;replace Bn:=ET Bn));repeat (go_quiet (first|(go_at_call 86;(with_reducible refine (sI.calls (wrap64 ((rd mY bO) - (rd qg bO))) xO _ A13.out).mono ?_);rintro e w' ⟨rfl,⟨nd,rfl⟩⟩;exact DW)|(go_at_call 86;(with_reducible refine (sI.calls (wrap64 ((rd mY bO) - (rd qg bO))) xO _ A13.out).mono ?_);rintro e w' ⟨rfl,⟨nd,rfl⟩⟩;have Bh : 0 ≤ (bO : Int):=OD AS;have Bj : bO < (mY.length : Int):=OD AS;obtain ⟨R5,TJ,aiq⟩:=Kd.aN (Kd.aA bf.out).2.2 bO Bh Bj;obtain rfl : WE = R5:=(by injection TJ);replace Bh:=ET Bh;replace Bj:=ET Bj;have Bl : 0 ≤ (bO : Int):=OD AS;have Bn : bO < (qg.length : Int):=OD AS;obtain ⟨R6,TK,air⟩:=Kd.aN (Kd.aA gY.out).2.2 bO Bl Bn;obtain rfl : WG = R6:=(by injection TK);replace Bl:=ET Bl;replace Bn:=ET Bn));try go_wp2_with (first|(go_at_call 86;(with_reducible refine (sI.calls (wrap64 ((rd mY bO) - (rd qg bO))) xO _ A13.out).mono ?_);rintro e w' ⟨rfl,⟨nd,rfl⟩⟩;exact DW)|(go_at_call 86;(with_reducible refine (sI.calls (wrap64 ((rd mY bO) - (rd qg bO))) xO _ A13.out).mono ?_);rintro e w' ⟨rfl,⟨nd,rfl⟩⟩;have Bh : 0 ≤ (bO : Int):=OD AS;have Bj : bO < (mY.length : Int):=OD AS;obtain ⟨R5,TJ,aiq⟩:=Kd.aN (Kd.aA bf.out).2.2 bO Bh Bj;obtain rfl : WE = R5:=(by injection TJ);replace Bh:=ET Bh;replace Bj:=ET Bj;have Bl : 0 ≤ (bO : Int):=OD AS;have Bn : bO < (qg.length : Int):=OD AS;obtain ⟨R6,TK,air⟩:=Kd.aN (Kd.aA gY.out).2.2 bO Bl Bn;obtain rfl : WG = R6:=(by injection TK);replace Bl:=ET Bl;replace Bn:=ET Bn)))
     go_roundg k1
     case measure=>have:=HK1.out;omega
     case rel=>exact ⟨(wrap64 (dS + xO)),(wrap64 (bO + 1)),RF,RF,H',⟨by have:=HK1.out;omega⟩,⟨KR bf⟩,⟨KR gY⟩,⟨BB⟩⟩
   ·rw [if_neg c9] at H;have wD:=DF c9;clear c9;obtain rfl:=Option.some.inj H;go_wp2;repeat (go_quiet (fail);try go_wp2)
    go_ret;exact ⟨RE,BB⟩

end Go.Proofs.Ythaonijhfeemfaa.dL
