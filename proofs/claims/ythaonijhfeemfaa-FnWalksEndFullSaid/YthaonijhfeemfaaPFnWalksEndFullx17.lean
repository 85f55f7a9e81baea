-- Written by a program of this session (wip/tools/pp.sh) out of the translation; Lean checks it.
import Derived.Test.YthaonijhfeemfaaPFnWalksEndFullx15
namespace Go.Proofs.Ythaonijhfeemfaa.dL
open Go.RowKit Go.Proofs.YthaonijhfeemfaaOwn Go.Proofs.YthaonijhfeemfaaW.bU Go.Proofs.YthaonijhfeemfaaW.fB Go.Proofs.YthaonijhfeemfaaW.iw
attribute [local go_sem] nG nH nK nL nD nE nI nJ   -- for this text's walks alone
set_option linter.unusedVariables false
set_option maxHeartbeats 8000000
set_option maxRecDepth 100000
set_option linter.unusedSimpArgs false

def fH.l0 : Nat→List Int→List (List Int)→Int→Int→Option (List Int × Bool)
 | 0,_,_,_,_=>none
 | k + 1,x11,x42,x43,x44=>if x44 < x43 then (if 0 ≤ x44 then (if x44 < (x42.length : Int) then (if 0 < ((ah x42 x44).length : Int) then (if 1 < ((ah x42 x44).length : Int) then ((oF.f (rd (ah x42 x44) 0) (rd (ah x42 x44) 1)).bind fun G5=>((jk.f k G5 x11).bind fun aeV=>(if aeV = true then (some (ah x42 x44,true)) else (fH.l0 k x11 x42 x43 (wrap64 (x44 + 1)))))) else (none)) else (none)) else (none)) else (none)) else (some (([] : List Int),false))
def fH.f (k : Nat) (a0 : Int) (l1 : List Int) (a2 : Int) (a3 : Int) : Option (List Int × Bool):=(gZ.f k a0 l1 a2 a3).bind fun TV=>(if TV = true then ((lJ.f k a0 l1 a2 a3).bind fun qO=>((cB.f k a0).bind fun qC=>(if 0 ≤ (wrap64 ((qO.1.length : Int) - 1)) then (if (wrap64 ((qO.1.length : Int) - 1)) < (qO.1.length : Int) then (if 0 ≤ (rd qO.1 (wrap64 ((qO.1.length : Int) - 1))) then (if (rd qO.1 (wrap64 ((qO.1.length : Int) - 1))) < (qC.length : Int) then ((eT.f k l1 (ah qC (rd qO.1 (wrap64 ((qO.1.length : Int) - 1))))).bind fun KX=>(if KX = true then (some (([] : List Int),false)) else ((fu.f k a0 l1).bind fun iZ=>(fH.l0 k qO.2 iZ (iZ.length : Int) 0)))) else (none)) else (none)) else (none)) else (none)))) else (some (([] : List Int),false)))
theorem fH.bC : ∀ k,(∀ y0 y1 y2 y3,LeO (fH.l0 k y0 y1 y2 y3) (fH.l0 (k + 1) y0 y1 y2 y3))
 | 0=>fun _ _ _ _ r h=>by simp [fH.l0] at h
 | k + 1=>by
  have ih0:=fH.bC k
  ·intro y0 y1 y2 y3
   unfold fH.l0
   have m0:=@fu.mono
   have m1:=@lJ.mono
   have m2:=@eT.mono
   have m3:=@gZ.mono
   have m4:=@jk.mono
   have m5:=@cB.mono
   exact MO
theorem fH.mono : ∀ a0 a1 a2 a3 k,LeO (fH.f k a0 a1 a2 a3) (fH.f (k + 1) a0 a1 a2 a3):=by
 intro a0 a1 a2 a3 k;have ih0:=fH.bC k;unfold fH.f
 have m0:=@fu.mono
 have m1:=@lJ.mono
 have m2:=@eT.mono
 have m3:=@gZ.mono
 have m4:=@jk.mono
 have m5:=@cB.mono
 exact MO
def fH.T4 : Bool × List (List Nat × List Nat):=(true,[([],[]),([],[]),([1],[1]),([],[]),([],[]),([4],[4]),([5],[5]),([3,6],[3,6]),([7],[7]),([2,8],[2,8]),([9],[9]),([0,10,2],[0,10])])
def fH.B4 : List Nat:=[0,0,2,0,0,16,48,120,248,510,1022,2047]
theorem fH.Yb : fC .any (opsOf Try.f9 4) = fH.T4:=by kernel_rfl
theorem fH.WL : lN fH.T4.2 fH.B4 = true:=by kernel_rfl
def fH.T9 : Bool × List (List Nat × List Nat):=(true,[([],[]),([0],[0]),([1],[1]),([],[]),([3],[3]),([4],[4]),([2,5],[2,5]),([],[]),([6,7,6],[6,7])])
def fH.B9 : List Nat:=[0,1,3,0,8,24,63,0,255]
theorem fH.KY : fC .any (opsOf Try.f9 9) = fH.T9:=by kernel_rfl
theorem fH.JB : lN fH.T9.2 fH.B9 = true:=by kernel_rfl
theorem fH.calls (k : Nat) (a0 : Int) (A1 : Option Addr) (c1 : Nat) (l1 : List Int) (a2 : Int) (a3 : Int) (r1 : List Int) (r2 : Bool) (w : World) (hr1 : Kd.C (Kd.int .i64) w A1 l1.length l1) (hc1 : l1.length ≤ c1) (h : fH.f k a0 l1 a2 a3 = some (r1,r2)) :
  Calls Try.prog 9 #[.int .i64 a0,.slice A1 l1.length c1,.int .i64 a2,.int .i64 a3] w fun e w'=>∃ v0_ : Value,e = .returned (.tuple #[v0_,.bool r2])∧Kd.R (Kd.int .i64) 3 w' w.heap.size (fun _=>True) v0_ r1∧Below w.heap.size w w':=by
 have HR1:=AM hr1;have HC1:=AM hc1;clear hr1 hc1;have HB:=HRf w;have H : ((gZ.f k a0 l1 a2 a3).bind fun TV=>(if TV = true then ((lJ.f k a0 l1 a2 a3).bind fun qO=>((cB.f k a0).bind fun qC=>(if 0 ≤ (wrap64 ((qO.1.length : Int) - 1)) then (if (wrap64 ((qO.1.length : Int) - 1)) < (qO.1.length : Int) then (if 0 ≤ (rd qO.1 (wrap64 ((qO.1.length : Int) - 1))) then (if (rd qO.1 (wrap64 ((qO.1.length : Int) - 1))) < (qC.length : Int) then ((eT.f k l1 (ah qC (rd qO.1 (wrap64 ((qO.1.length : Int) - 1))))).bind fun KX=>(if KX = true then (some (([] : List Int),false)) else ((fu.f k a0 l1).bind fun iZ=>(fH.l0 k qO.2 iZ (iZ.length : Int) 0)))) else (none)) else (none)) else (none)) else (none)))) else (some (([] : List Int),false)))) = some (r1,r2):=h;clear h;replace H:=EA H;obtain ⟨TV,A5,H⟩:=H;by_cases c6 : TV = true
 ·subst c6;replace H:=IP H;replace H:=EA H;obtain ⟨⟨kV,EK⟩,A7,H⟩:=H;try dsimp only at H
  replace H:=EA H;obtain ⟨qC,A8,H⟩:=H;obtain ⟨ji9,lW⟩ : ∃ j_ : Int,(wrap64 ((kV.length : Int) - 1)) = j_:=⟨_,rfl⟩;replace H : (if 0 ≤ (ji9) then (if (ji9) < (kV.length : Int) then (if 0 ≤ (rd kV (ji9)) then (if (rd kV (ji9)) < (qC.length : Int) then ((eT.f k l1 (ah qC (rd kV (ji9)))).bind fun KX=>(if KX = true then (some (([] : List Int),false)) else ((fu.f k a0 l1).bind fun iZ=>(fH.l0 k EK iZ (iZ.length : Int) 0)))) else (none)) else (none)) else (none)) else (none)) = some (r1,r2):=by first|(rw [lW] at H;exact H)|(simp only [lW] at H ⊢;exact H)
  (try rw [lW] at A5)
  (try rw [lW] at A7)
  (try rw [lW] at A8);have at5 : (IntKind.i64.wrap ((kV.length : Int) - 1)) = ji9:=(dJ _).trans lW;replace H:=IC H;obtain ⟨c10,H⟩:=H;have mE:=DT c10;clear c10;replace H:=IC H;obtain ⟨c11,H⟩:=H;have qK:=DT c11;clear c11;replace H:=IC H;obtain ⟨c12,H⟩:=H;have rQ:=DT c12;clear c12;replace H:=IC H;obtain ⟨c13,H⟩:=H;have D6:=DT c13;clear c13;replace H:=EA H;obtain ⟨KX,A14,H⟩:=H;by_cases c15 : KX = true
  ·subst c15;replace H:=IP H;simp only [Option.some.injEq,Prod.mk.injEq] at H;obtain ⟨rfl,rfl⟩:=H;go_enter Try.func9,Try.ntmps9;try go_wp2_with (first|(refine GC 25 ?_;refine GM (some 18) Try.func25 (gZ.calls k a0 _ _ l1 a2 a3 true _ (CW HR1.out) HC1.out A5.out) ?_;rintro e w16 ⟨rfl,hb⟩;refine ⟨_,rfl,?_⟩;replace HB:=HS hb;try clear hb)|(refine GC 26 ?_;refine GM (some 25) Try.func26 (lJ.calls k a0 _ _ l1 a2 a3 kV EK _ (CW (Kd.aQ HR1.out HB.out)) HC1.out A7.out) ?_;rintro e w17 ⟨aeW,amB,rfl,ho0,ho1,hb⟩;refine ⟨_,rfl,?_⟩;have ru:=AM (Kd.bD (Kd.aM (ok':=fun k_=>True) ho0 (fun _ hk_=>trivial)) (BZ BB));have xE:=AM (Kd.nN (Kd.dz (ok':=fun k_=>some k_≠(aeW : Value).ownBlock) ho1 (fun k_ hk_=>hk_.2)) (BZ BB));replace HB:=HS hb;try clear hb ho0 ho1))
   replace ru:=AM (Kd.bF ru.out);replace xE:=AM (Kd.fU xE.out);replace HB:=AM (fA HB.out);obtain ⟨Gu,Gv,CY⟩:=Kd.bG ru.out
   (first|subst CY|(injection CY with f1_ f2_ f3_;have f4_:=f1_.symm;have f5_:=f3_.symm;clear f1_ f2_ f3_;subst f4_;subst f5_));have G6 : 0 ≤ ((ji9) : Int):=OD AS;have G7 : (ji9) < (kV.length : Int):=OD AS;obtain ⟨Sc,aeX,M9⟩:=Kd.aN (Kd.aA ru.out).2.2 (ji9) G6 G7;cases aeX;replace G6:=ET G6;replace G7:=ET G7;refine PSt (n:=12) (S:=fun w'=>w'.cell? (Sc.add ((ji9)).toNat) = some (.int .i64 (rd kV (ji9)))) (ds:=[]) M9 (fun hHeld=>?_);refine lK fH.Yb fH.WL (fun HT_ HW_=>?_);generalize w17.drew = w18 at ru xE HB M9 hHeld ⊢;refine PA 0 28 HT_ ?_;refine PA 1 29 HT_ ?_;refine PA 3 31 HT_ ?_;refine PA 4 32 HT_ ?_;refine PA 5 33 HT_ ?_;refine PA 6 34 HT_ ?_;refine PA 7 35 HT_ ?_;refine NS (i:=8) (N:=some 36) (v:=?_) (a':=?_) #[true,true,false,true,true,true,true,true,true,false,false,false] rfl rfl (Vt HT_.out HW_.out (by kernel_rfl)) (fun _ _ _ h=>h) (Or.inl ⟨by rfl,?_⟩) hHeld ?_ ?_;rotate_left
   ·rintro w' s0;go_simp;with_reducible rfl
   rotate_left
   ·exact PU
   refine PC 2 30 HT_ (fun K hK=>?_);refine iL Try.func28 (by kernel_rfl) rfl #[.int .i64 a0] (by rfl) rfl rfl TA ?_;with_reducible refine (cB.calls k a0 qC _ A8.out).mono ?_;rintro e w20 ⟨axv,rfl,ho0,hb⟩;have mX:=LD hb hHeld;refine ⟨_,rfl,?_⟩;replace xE:=AM (Kd.zP (KV xE) (Kd.sN ho0) hb);have zl:=AM (Kd.jG (Kd.oJ ho0 (Kd.bJ (KR ru))) (BZ BB));replace ru:=RB ru hb;replace HB:=HS hb;try clear hb ho0
   obtain ⟨Ba,zD,yM⟩:=Kd.jC zl.out
   (first|subst yM|(injection yM with f1_ f2_ f3_;have f4_:=f1_.symm;have f5_:=f3_.symm;clear f1_ f2_ f3_;subst f4_;subst f5_));have Di : 0 ≤ ((rd kV (ji9)) : Int):=OD AS;have Dj : (rd kV (ji9)) < (qC.length : Int):=OD AS;obtain ⟨acB,NH,Rz,aeY,Na,Nb,Qr⟩:=gT (Kd.bW zl.out).2.2 (rd kV (ji9)) Di Dj;cases aeY;obtain ⟨auf,abj,abk,RA⟩:=Kd.ny zl.out [] (rd kV (ji9)) Di (by first|exact Dj|exact OD AS|(have e_:=(Kd.bW zl.out).1;omega));obtain ⟨aqg,rfl,II⟩:=abk;have zU:=RA 0 _ rfl;rw [Nat.add_zero,show ((Kd.slice 3 (Kd.int .i64))).sz = 1 from rfl,Nat.mul_one] at zU;replace zU:=Option.some.inj (zU.symm.trans Na);rw [zU] at II;have VH:=AM (show Kd.R (Kd.int .i64) 3 _ _ _ _ (ah qC (rd kV (ji9))) from II);clear zU II;clear RA abj;have sK:=AM Qr;have aac:=AM Nb;clear Qr Nb;replace Di:=ET Di;replace Dj:=ET Dj;refine hK.out _ _ mX (fun hHeld=>?_);refine WO (fun w'=>w'.cell? (Sc.add ((ji9)).toNat) = some (.int .i64 (rd kV (ji9)))∧w'.cell? (acB.add ((rd kV (ji9))).toNat) = some (.slice NH (ah qC (rd kV (ji9))).length Rz)) (fun _ h_=>h_.1) ⟨hHeld,Na⟩ (fun hHeld=>?_);clear hK K;refine iy (a':=?_) ?_ ?_;rotate_left
   ·show Act.put _ (some 30) _ = _;simp only [Act.put,List.setIfInBounds_toArray,List.set_cons_zero,List.set_cons_succ,dJ,eX];rfl
   refine PA 9 37 HT_ ?_;refine PB 10 38 HT_ HW_ hHeld ?_;refine PC 11 39 HT_ (fun K hK=>?_);refine iL Try.func27 (by kernel_rfl) rfl #[.slice A1 l1.length c1,.slice NH (ah qC (rd kV (ji9))).length Rz] (by rfl) rfl rfl (by (try simp only [List.map_toArray,List.map_cons,List.map_nil]);first|done|(simp only [lW];rfl)|rfl|(simp only [List.length_drop,List.length_take];rfl)) ?_;with_reducible refine (eT.calls k _ _ l1 _ _ (ah qC (rd kV (ji9))) true _ ?aU ?aV ?eu ?eB A14.out).mono ?_
   (case aU=>exact CW (Kd.aQ HR1.out HB.out))
   (case aV=>exact HC1.out)
   (case eu=>exact CX sK)
   (case eB=>exact aac.out);rintro e w' ⟨rfl,⟨nd,rfl⟩⟩;refine ⟨_,rfl,?_⟩;refine hK.out _ _ ⟨hHeld.1,hHeld.2⟩ (fun hHeld=>?_);clear hK K;refine iy (a':=?_) ?_ ?_;rotate_left
   ·show Act.put _ (some 39) _ = _;simp only [Act.put,List.setIfInBounds_toArray,List.set_cons_zero,List.set_cons_succ,dJ,eX];rfl
   refine l8 (l5 HT_.out (by kernel_rfl)) ?_;try go_wp2
   go_ret2;exact ⟨_,by first|rfl|(simp [mJ,mK] <;> rfl)|(simp only [← lW];first|rfl|(simp [mJ,mK] <;> rfl))|(simp [*,mJ,mK] <;> rfl),by first|exact Kd.om _ _ _ _ _|exact Kd.qz _ _ _ _ _|exact Kd.pE _ _ _ _ _|exact Kd.qA _ _ _ _ _|exact Kd.qB _ _ _ _ _,BB⟩
  ·replace c15:=NF c15;subst c15;replace H:=IN H;replace H:=EA H;obtain ⟨iZ,A22,H⟩:=H;have H':=AM H;clear H;go_enter Try.func9,Try.ntmps9;try go_wp2_with (first|(refine GC 25 ?_;refine GM (some 18) Try.func25 (gZ.calls k a0 _ _ l1 a2 a3 true _ (CW HR1.out) HC1.out A5.out) ?_;rintro e w23 ⟨rfl,hb⟩;refine ⟨_,rfl,?_⟩;replace HB:=HS hb;try clear hb)|(refine GC 26 ?_;refine GM (some 25) Try.func26 (lJ.calls k a0 _ _ l1 a2 a3 kV EK _ (CW (Kd.aQ HR1.out HB.out)) HC1.out A7.out) ?_;rintro e w24 ⟨aeW,amB,rfl,ho0,ho1,hb⟩;refine ⟨_,rfl,?_⟩;have ru:=AM (Kd.bD (Kd.aM (ok':=fun k_=>True) ho0 (fun _ hk_=>trivial)) (BZ BB));have xE:=AM (Kd.nN (Kd.dz (ok':=fun k_=>some k_≠(aeW : Value).ownBlock) ho1 (fun k_ hk_=>hk_.2)) (BZ BB));replace HB:=HS hb;try clear hb ho0 ho1))
   replace ru:=AM (Kd.bF ru.out);replace xE:=AM (Kd.fU xE.out);replace HB:=AM (fA HB.out);obtain ⟨Gy,yN,wG⟩:=Kd.bG ru.out
   (first|subst wG|(injection wG with f1_ f2_ f3_;have f4_:=f1_.symm;have f5_:=f3_.symm;clear f1_ f2_ f3_;subst f4_;subst f5_));have G6 : 0 ≤ ((ji9) : Int):=OD AS;have G7 : (ji9) < (kV.length : Int):=OD AS;obtain ⟨Sc,aeX,M9⟩:=Kd.aN (Kd.aA ru.out).2.2 (ji9) G6 G7;cases aeX;replace G6:=ET G6;replace G7:=ET G7;refine PSt (n:=12) (S:=fun w'=>w'.cell? (Sc.add ((ji9)).toNat) = some (.int .i64 (rd kV (ji9)))) (ds:=[]) M9 (fun hHeld=>?_);refine lK fH.Yb fH.WL (fun HT_ HW_=>?_);generalize w24.drew = w25 at ru xE HB M9 hHeld ⊢;refine PA 0 28 HT_ ?_;refine PA 1 29 HT_ ?_;refine PA 3 31 HT_ ?_;refine PA 4 32 HT_ ?_;refine PA 5 33 HT_ ?_;refine PA 6 34 HT_ ?_;refine PA 7 35 HT_ ?_;refine NS (i:=8) (N:=some 36) (v:=?_) (a':=?_) #[true,true,false,true,true,true,true,true,true,false,false,false] rfl rfl (Vt HT_.out HW_.out (by kernel_rfl)) (fun _ _ _ h=>h) (Or.inl ⟨by rfl,?_⟩) hHeld ?_ ?_;rotate_left
   ·rintro w' s0;go_simp;with_reducible rfl
   rotate_left
   ·exact PU
   refine PC 2 30 HT_ (fun K hK=>?_);refine iL Try.func28 (by kernel_rfl) rfl #[.int .i64 a0] (by rfl) rfl rfl TA ?_;with_reducible refine (cB.calls k a0 qC _ A8.out).mono ?_;rintro e w27 ⟨axv,rfl,ho0,hb⟩;have mX:=LD hb hHeld;refine ⟨_,rfl,?_⟩;replace xE:=AM (Kd.zP (KV xE) (Kd.sN ho0) hb);have zl:=AM (Kd.jG (Kd.oJ ho0 (Kd.bJ (KR ru))) (BZ BB));replace ru:=RB ru hb;replace HB:=HS hb;try clear hb ho0
   obtain ⟨aep,aer,Kv⟩:=Kd.jC zl.out
   (first|subst Kv|(injection Kv with f1_ f2_ f3_;have f4_:=f1_.symm;have f5_:=f3_.symm;clear f1_ f2_ f3_;subst f4_;subst f5_));have Di : 0 ≤ ((rd kV (ji9)) : Int):=OD AS;have Dj : (rd kV (ji9)) < (qC.length : Int):=OD AS;obtain ⟨acB,NH,Rz,aeY,Na,Nb,Qr⟩:=gT (Kd.bW zl.out).2.2 (rd kV (ji9)) Di Dj;cases aeY;obtain ⟨auf,abj,abk,RA⟩:=Kd.ny zl.out [] (rd kV (ji9)) Di (by first|exact Dj|exact OD AS|(have e_:=(Kd.bW zl.out).1;omega));obtain ⟨aqg,rfl,II⟩:=abk;have zU:=RA 0 _ rfl;rw [Nat.add_zero,show ((Kd.slice 3 (Kd.int .i64))).sz = 1 from rfl,Nat.mul_one] at zU;replace zU:=Option.some.inj (zU.symm.trans Na);rw [zU] at II;have VH:=AM (show Kd.R (Kd.int .i64) 3 _ _ _ _ (ah qC (rd kV (ji9))) from II);clear zU II;clear RA abj;have sK:=AM Qr;have aac:=AM Nb;clear Qr Nb;replace Di:=ET Di;replace Dj:=ET Dj;refine hK.out _ _ mX (fun hHeld=>?_);refine WO (fun w'=>w'.cell? (Sc.add ((ji9)).toNat) = some (.int .i64 (rd kV (ji9)))∧w'.cell? (acB.add ((rd kV (ji9))).toNat) = some (.slice NH (ah qC (rd kV (ji9))).length Rz)) (fun _ h_=>h_.1) ⟨hHeld,Na⟩ (fun hHeld=>?_);clear hK K;refine iy (a':=?_) ?_ ?_;rotate_left
   ·show Act.put _ (some 30) _ = _;simp only [Act.put,List.setIfInBounds_toArray,List.set_cons_zero,List.set_cons_succ,dJ,eX];rfl
   refine PA 9 37 HT_ ?_;refine PB 10 38 HT_ HW_ hHeld ?_;refine PC 11 39 HT_ (fun K hK=>?_);refine iL Try.func27 (by kernel_rfl) rfl #[.slice A1 l1.length c1,.slice NH (ah qC (rd kV (ji9))).length Rz] (by rfl) rfl rfl (by (try simp only [List.map_toArray,List.map_cons,List.map_nil]);first|done|(simp only [lW];rfl)|rfl|(simp only [List.length_drop,List.length_take];rfl)) ?_;with_reducible refine (eT.calls k _ _ l1 _ _ (ah qC (rd kV (ji9))) false _ ?aU ?aV ?eu ?eB A14.out).mono ?_
   (case aU=>exact CW (Kd.aQ HR1.out HB.out))
   (case aV=>exact HC1.out)
   (case eu=>exact CX sK)
   (case eB=>exact aac.out);rintro e w' ⟨rfl,⟨nd,rfl⟩⟩;refine ⟨_,rfl,?_⟩;refine hK.out _ _ ⟨hHeld.1,hHeld.2⟩ (fun hHeld=>?_);clear hK K;refine iy (a':=?_) ?_ ?_;rotate_left
   ·show Act.put _ (some 39) _ = _;simp only [Act.put,List.setIfInBounds_toArray,List.set_cons_zero,List.set_cons_succ,dJ,eX];rfl
   refine l8 (l5 HT_.out (by kernel_rfl)) ?_;try go_wp2_with (first|(refine GC 32 ?_;refine GM (some 42) Try.func32 (fu.calls k a0 _ _ l1 iZ _ (CW (Kd.aQ HR1.out BB)) HC1.out A22.out) ?_;rintro e w29 ⟨aE7,rfl,ho0,hb⟩;refine ⟨_,rfl,?_⟩;replace xE:=AM (Kd.zP (KV xE) (Kd.sN ho0) hb);have ak4:=AM (Kd.jG (Kd.oJ (Kd.oJ (Kd.oJ ho0 (Kd.bJ (KR ru))) (Kd.oV (KS zl))) (Kd.bJ (KR VH))) (BZ BB));replace ru:=RB ru hb;replace zl:=AM (Kd.zO (KS zl) (Kd.sN ho0) hb);replace VH:=RB VH hb;replace sK:=AM (Kd.aQ (CX sK) hb);replace HB:=HS hb;try clear hb ho0;obtain ⟨TB,TD,Kk⟩:=Kd.jC ak4.out;subst Kk))
   go_loopg [44] k (fun kq v44 w'=>∃ (jQ : Int),v44 = .int .i64 jQ∧ak (fH.l0 kq EK iZ (iZ.length : Int) jQ = some (r1,r2))∧ak (kq ≤ k)∧ak (Kd.V (Kd.int .i64) 3 w' w.heap.size (fun k_=>some k_≠((.slice TB iZ.length TD) : Value).ownBlock) amB EK)∧ak (Kd.S (Kd.slice 3 (Kd.int .i64)) 24 w' w.heap.size (fun _=>True) (.slice TB iZ.length TD) iZ)∧ak (Kd.C (Kd.int .i64) w' NH (ah qC (rd kV (ji9))).length (ah qC (rd kV (ji9))))∧ak (Below w.heap.size w w'))
   case atStart=>exact ⟨(0),RF,H',⟨Nat.le_refl _⟩,⟨by (with_reducible repeat (first|apply Kd.jm|apply Kd.jo|apply Kd.fU));exact Kd.dz xE.out (fun _ hk=>hk.2)⟩,⟨by (with_reducible repeat (first|apply Kd.fK|apply Kd.fM|apply Kd.dB));exact Kd.dx ak4.out (fun _ hk=>trivial)⟩,⟨CX sK⟩,⟨BB⟩⟩
   case round =>
    clear H';try clear c1
    try clear c2
    try clear p2
    try clear c3
    try clear c6
    try clear p6
    try clear q6
    try clear hx6
    try clear c9
    try clear c10
    try clear mE
    try clear c11
    try clear qK
    try clear c12
    try clear rQ
    try clear c13
    try clear D6
    try clear c15
    try clear c25
    try clear c26
    try clear c27
    try clear c28
    try clear M9
    try clear Na
    try clear G6
    try clear Di
    try clear G7
    try clear Dj
    obtain ⟨jQ,rfl,HA,HK1,oM,kI,sK,HB⟩:=hrel;cases gk with
    | zero=>exact absurd HA.out (by simp [fH.l0])
    | succ k1 =>
     have H:=HA.out;clear HA;simp only [fH.l0] at H;by_cases c31 : jQ < (iZ.length : Int)
     ·rw [if_pos c31] at H;have WB:=DT c31;clear c31;replace H:=IC H;obtain ⟨c32,H⟩:=H;have at7:=DT c32;clear c32;replace H:=IC H;obtain ⟨c33,H⟩:=H;have aCJ:=DT c33;clear c33;replace H:=IC H;obtain ⟨c34,H⟩:=H;have aCK:=DT c34;have aCL : decide (0 < (ah iZ jQ).length) = true:=DT (by omega);clear c34;replace H:=IC H;obtain ⟨c35,H⟩:=H;have Sd:=DT c35;have aCM : decide (1 < (ah iZ jQ).length) = true:=DT (by omega);clear c35;replace H:=EA H;obtain ⟨G5,A36,H⟩:=H;replace H:=EA H;obtain ⟨aeV,A37,H⟩:=H;by_cases c38 : aeV = true
      ·subst c38;replace H:=IP H;simp only [Option.some.injEq,Prod.mk.injEq] at H;obtain ⟨rfl,rfl⟩:=H;have EL : 0 ≤ (jQ : Int):=OD AS;have EM : jQ < (iZ.length : Int):=OD AS;obtain ⟨aug,arY,arZ,aeZ,aad,Qs,Qt⟩:=gT (Kd.bW kI.out).2.2 jQ EL EM;cases aeZ;obtain ⟨auh,abl,abm,RD⟩:=Kd.ny kI.out [] jQ EL (by first|exact EM|exact OD AS|(have e_:=(Kd.bW kI.out).1;omega));obtain ⟨aqh,rfl,IJ⟩:=abm;have zV:=RD 0 _ rfl;rw [Nat.add_zero,show ((Kd.slice 3 (Kd.int .i64))).sz = 1 from rfl,Nat.mul_one] at zV;replace zV:=Option.some.inj (zV.symm.trans aad);rw [zV] at IJ;have wX:=AM (show Kd.R (Kd.int .i64) 3 _ _ _ _ (ah iZ jQ) from IJ);clear zV IJ;clear RD abl;have vU:=AM Qt;have aqi:=AM Qs;clear Qt Qs;replace EL:=ET EL;replace EM:=ET EM;try go_wp2
       replace oM:=AM (Kd.fU oM.out);replace kI:=AM (Kd.dB kI.out);replace wX:=AM (Kd.bF wX.out);replace sK:=AM (Kd.sM sK.out);replace vU:=AM (Kd.sM vU.out);replace HB:=AM (fA HB.out);have KZ : 0 ≤ (0 : Int):=(by omega);have K3 : 0 < ((ah iZ jQ).length : Int):=OD AS;obtain ⟨Eh,ae0,DL⟩:=Kd.aN (CX vU) 0 KZ K3;cases ae0;have aui : (0 < (ah iZ jQ).length) = True:=ET (by omega)
       (try rw [show ((0 : Int)).toNat = 0 from rfl] at DL)
       (try rw [Addr.add_zero'] at DL);replace KZ:=ET KZ;replace K3:=ET K3;have K4 : 0 ≤ (1 : Int):=(by omega);have K5 : 1 < ((ah iZ jQ).length : Int):=OD AS;obtain ⟨acC,ae1,DN⟩:=Kd.aN (CX vU) 1 K4 K5;obtain rfl : Eh = acC:=(by injection ae1)
       (try simp only [show (1 : Int).toNat = 1 from rfl,Nat.reduceMul,Nat.reduceEqDiff,Go.Addr.add,↓reduceIte] at DN);have auj : (1 < (ah iZ jQ).length) = True:=ET (by omega)
       (try rw [show ((1 : Int)).toNat = 1 from rfl] at DN);replace K4:=ET K4;replace K5:=ET K5;refine PSt (n:=9) (S:=fun w'=>w'.cell? Eh = some (.int .i64 (rd (ah iZ jQ) 0))∧w'.cell? ⟨Eh.block,Eh.off + 1,none⟩ = some (.int .i64 (rd (ah iZ jQ) 1))) (ds:=[]) ⟨DL,DN⟩ (fun hHeld=>?_);refine lK fH.KY fH.JB (fun HT_ HW_=>?_);generalize wr.drew = w39 at oM kI wX sK vU HB DL DN hHeld ⊢;refine PA 0 48 HT_ ?_;refine PA 1 49 HT_ ?_;refine PA 3 51 HT_ ?_;refine PA 4 52 HT_ ?_;refine PA 7 55 HT_ ?_;refine PB 2 50 HT_ HW_ hHeld ?_;refine PB 5 53 HT_ HW_ hHeld ?_;refine PC 6 54 HT_ (fun K hK=>?_);refine iL Try.func34 (by kernel_rfl) rfl #[.int .i64 (rd (ah iZ jQ) 0),.int .i64 (rd (ah iZ jQ) 1)] (by rfl) rfl rfl TA ?_;with_reducible refine (oF.calls (rd (ah iZ jQ) 0) (rd (ah iZ jQ) 1) G5 _ A36.out).mono ?_;rintro e w40 ⟨axw,rfl,ho0,hb⟩;have mX:=LD hb hHeld.1;have qd:=LD hb hHeld.2;refine ⟨_,rfl,?_⟩;replace oM:=VO oM ho0 hb;replace kI:=SO kI ho0 hb;have JC:=AM (Kd.bD (Kd.dM ho0 (Kd.bJ (KR wX))) (BZ BB));replace wX:=RO wX ho0 hb;replace sK:=AM (Kd.aQ (CX sK) hb);replace vU:=AM (Kd.aQ (CX vU) hb);replace HB:=HS hb;try clear hb ho0
       obtain ⟨axx,axy,amC⟩:=Kd.bG JC.out
       (first|subst amC|(injection amC with f1_ f2_ f3_;have f4_:=f1_.symm;have f5_:=f3_.symm;clear f1_ f2_ f3_;subst f4_;subst f5_));obtain ⟨aeS,aeT,TU⟩:=Kd.qy oM.out
       (first|subst TU|(injection TU with f1_ f2_ f3_;have f4_:=f1_.symm;have f5_:=f3_.symm;clear f1_ f2_ f3_;subst f4_;subst f5_));refine hK.out _ _ ⟨mX,qd⟩ (fun hHeld=>?_);clear hK K;refine iy (a':=?_) ?_ ?_;rotate_left
       ·show Act.put _ (some 54) _ = _;simp only [Act.put,List.setIfInBounds_toArray,List.set_cons_zero,List.set_cons_succ,dJ,eX];rfl
       refine PC 8 56 HT_ (fun K hK=>?_);refine iL Try.func33 (by kernel_rfl) rfl #[.slice axx G5.length axy,.slice aeS EK.length aeT] (by rfl) rfl rfl TA ?_;with_reducible refine (jk.calls k1 _ _ G5 _ _ EK true _ ?aU ?aV ?eu ?eB A37.out).mono ?_
       (case aU=>exact CW (Kd.aA JC.out).2.2)
       (case aV=>exact (Kd.aA JC.out).2.1)
       (case eu=>exact CW (Kd.gN oM.out).2.2)
       (case eB=>exact (Kd.gN oM.out).2.1);rintro e w' ⟨rfl,⟨nd,rfl⟩⟩;refine ⟨_,rfl,?_⟩;refine hK.out _ _ ⟨hHeld.1,hHeld.2⟩ (fun hHeld=>?_);clear hK K;refine iy (a':=?_) ?_ ?_;rotate_left
       ·show Act.put _ (some 56) _ = _;simp only [Act.put,List.setIfInBounds_toArray,List.set_cons_zero,List.set_cons_succ,dJ,eX];rfl
       refine l8 (l5 HT_.out (by kernel_rfl)) ?_;try go_wp2
       go_ret2;exact ⟨_,by first|rfl|(simp [mJ,mK] <;> rfl)|(simp only [← lW];first|rfl|(simp [mJ,mK] <;> rfl))|(simp [*,mJ,mK] <;> rfl),by (with_reducible repeat (first|apply Kd.dh|apply Kd.dn|apply Kd.bF));exact Kd.aM wX.out (fun _ hk=>trivial),BB⟩
      ·replace c38:=NF c38;subst c38;replace H:=IN H;have H':=AM H;clear H;have EL : 0 ≤ (jQ : Int):=OD AS;have EM : jQ < (iZ.length : Int):=OD AS;obtain ⟨aug,arY,arZ,aeZ,aad,Qs,Qt⟩:=gT (Kd.bW kI.out).2.2 jQ EL EM;cases aeZ;obtain ⟨auh,abl,abm,RD⟩:=Kd.ny kI.out [] jQ EL (by first|exact EM|exact OD AS|(have e_:=(Kd.bW kI.out).1;omega));obtain ⟨aqh,rfl,IJ⟩:=abm;have zV:=RD 0 _ rfl;rw [Nat.add_zero,show ((Kd.slice 3 (Kd.int .i64))).sz = 1 from rfl,Nat.mul_one] at zV;replace zV:=Option.some.inj (zV.symm.trans aad);rw [zV] at IJ;have wX:=AM (show Kd.R (Kd.int .i64) 3 _ _ _ _ (ah iZ jQ) from IJ);clear zV IJ;clear RD abl;have vU:=AM Qt;have aqi:=AM Qs;clear Qt Qs;replace EL:=ET EL;replace EM:=ET EM;try go_wp2
       replace oM:=AM (Kd.fU oM.out);replace kI:=AM (Kd.dB kI.out);replace wX:=AM (Kd.bF wX.out);replace sK:=AM (Kd.sM sK.out);replace vU:=AM (Kd.sM vU.out);replace HB:=AM (fA HB.out);have KZ : 0 ≤ (0 : Int):=(by omega);have K3 : 0 < ((ah iZ jQ).length : Int):=OD AS;obtain ⟨Eh,ae0,DL⟩:=Kd.aN (CX vU) 0 KZ K3;cases ae0;have aui : (0 < (ah iZ jQ).length) = True:=ET (by omega)
       (try rw [show ((0 : Int)).toNat = 0 from rfl] at DL)
       (try rw [Addr.add_zero'] at DL);replace KZ:=ET KZ;replace K3:=ET K3;have K4 : 0 ≤ (1 : Int):=(by omega);have K5 : 1 < ((ah iZ jQ).length : Int):=OD AS;obtain ⟨acC,ae1,DN⟩:=Kd.aN (CX vU) 1 K4 K5;obtain rfl : Eh = acC:=(by injection ae1)
       (try simp only [show (1 : Int).toNat = 1 from rfl,Nat.reduceMul,Nat.reduceEqDiff,Go.Addr.add,↓reduceIte] at DN);have auj : (1 < (ah iZ jQ).length) = True:=ET (by omega)
       (try rw [show ((1 : Int)).toNat = 1 from rfl] at DN);replace K4:=ET K4;replace K5:=ET K5;refine PSt (n:=9) (S:=fun w'=>w'.cell? Eh = some (.int .i64 (rd (ah iZ jQ) 0))∧w'.cell? ⟨Eh.block,Eh.off + 1,none⟩ = some (.int .i64 (rd (ah iZ jQ) 1))) (ds:=[]) ⟨DL,DN⟩ (fun hHeld=>?_);refine lK fH.KY fH.JB (fun HT_ HW_=>?_);generalize wr.drew = w43 at oM kI wX sK vU HB DL DN hHeld ⊢;refine PA 0 48 HT_ ?_;refine PA 1 49 HT_ ?_;refine PA 3 51 HT_ ?_;refine PA 4 52 HT_ ?_;refine PA 7 55 HT_ ?_;refine PB 2 50 HT_ HW_ hHeld ?_;refine PB 5 53 HT_ HW_ hHeld ?_;refine PC 6 54 HT_ (fun K hK=>?_);refine iL Try.func34 (by kernel_rfl) rfl #[.int .i64 (rd (ah iZ jQ) 0),.int .i64 (rd (ah iZ jQ) 1)] (by rfl) rfl rfl TA ?_;with_reducible refine (oF.calls (rd (ah iZ jQ) 0) (rd (ah iZ jQ) 1) G5 _ A36.out).mono ?_;rintro e w44 ⟨axw,rfl,ho0,hb⟩;have mX:=LD hb hHeld.1;have qd:=LD hb hHeld.2;refine ⟨_,rfl,?_⟩;replace oM:=VO oM ho0 hb;replace kI:=SO kI ho0 hb;have JC:=AM (Kd.bD (Kd.dM ho0 (Kd.bJ (KR wX))) (BZ BB));replace wX:=RO wX ho0 hb;replace sK:=AM (Kd.aQ (CX sK) hb);replace vU:=AM (Kd.aQ (CX vU) hb);replace HB:=HS hb;try clear hb ho0
       obtain ⟨axz,axA,amD⟩:=Kd.bG JC.out
       (first|subst amD|(injection amD with f1_ f2_ f3_;have f4_:=f1_.symm;have f5_:=f3_.symm;clear f1_ f2_ f3_;subst f4_;subst f5_));obtain ⟨axB,OP,TW⟩:=Kd.qy oM.out
       (first|subst TW|(injection TW with f1_ f2_ f3_;have f4_:=f1_.symm;have f5_:=f3_.symm;clear f1_ f2_ f3_;subst f4_;subst f5_));refine hK.out _ _ ⟨mX,qd⟩ (fun hHeld=>?_);clear hK K;refine iy (a':=?_) ?_ ?_;rotate_left
       ·show Act.put _ (some 54) _ = _;simp only [Act.put,List.setIfInBounds_toArray,List.set_cons_zero,List.set_cons_succ,dJ,eX];rfl
       refine PC 8 56 HT_ (fun K hK=>?_);refine iL Try.func33 (by kernel_rfl) rfl #[.slice axz G5.length axA,.slice axB EK.length OP] (by rfl) rfl rfl TA ?_;with_reducible refine (jk.calls k1 _ _ G5 _ _ EK false _ ?aU ?aV ?eu ?eB A37.out).mono ?_
       (case aU=>exact CW (Kd.aA JC.out).2.2)
       (case aV=>exact (Kd.aA JC.out).2.1)
       (case eu=>exact CW (Kd.gN oM.out).2.2)
       (case eB=>exact (Kd.gN oM.out).2.1);rintro e w' ⟨rfl,⟨nd,rfl⟩⟩;refine ⟨_,rfl,?_⟩;refine hK.out _ _ ⟨hHeld.1,hHeld.2⟩ (fun hHeld=>?_);clear hK K;refine iy (a':=?_) ?_ ?_;rotate_left
       ·show Act.put _ (some 56) _ = _;simp only [Act.put,List.setIfInBounds_toArray,List.set_cons_zero,List.set_cons_succ,dJ,eX];rfl
       refine l8 (l5 HT_.out (by kernel_rfl)) ?_;try go_wp2
       go_roundg k1
       case measure=>have:=HK1.out;omega
       case rel=>exact ⟨(wrap64 (jQ + 1)),RF,H',⟨by have:=HK1.out;omega⟩,⟨by (with_reducible repeat (first|apply Kd.jm|apply Kd.jo|apply Kd.fU));exact Kd.dz oM.out (fun _ hk=>hk.1)⟩,⟨by (with_reducible repeat (first|apply Kd.fK|apply Kd.fM|apply Kd.dB));exact Kd.dx kI.out (fun _ hk=>trivial)⟩,⟨CX sK⟩,⟨BB⟩⟩
     ·rw [if_neg c31] at H;have WB:=DF c31;try (have auk:=WB;rw [Nb] at auk)
      clear c31;simp only [Option.some.injEq,Prod.mk.injEq] at H;obtain ⟨rfl,rfl⟩:=H;go_wp2;go_ret2;exact ⟨_,by first|rfl|(simp [mJ,mK] <;> rfl)|(simp only [← lW];first|rfl|(simp [mJ,mK] <;> rfl))|(simp [*,mJ,mK] <;> rfl),by first|exact Kd.om _ _ _ _ _|exact Kd.qz _ _ _ _ _|exact Kd.pE _ _ _ _ _|exact Kd.qA _ _ _ _ _|exact Kd.qB _ _ _ _ _,BB⟩
 ·replace c6:=NF c6;subst c6;replace H:=IN H;simp only [Option.some.injEq,Prod.mk.injEq] at H;obtain ⟨rfl,rfl⟩:=H;go_enter Try.func9,Try.ntmps9;go_wp2_with (first|(refine GC 25 ?_;refine GM (some 18) Try.func25 (gZ.calls k a0 _ _ l1 a2 a3 false _ (CW HR1.out) HC1.out A5.out) ?_;rintro e w47 ⟨rfl,hb⟩;refine ⟨_,rfl,?_⟩;replace HB:=HS hb;try clear hb));go_ret2;exact ⟨_,RE,by first|exact Kd.om _ _ _ _ _|exact Kd.qz _ _ _ _ _|exact Kd.pE _ _ _ _ _|exact Kd.qA _ _ _ _ _|exact Kd.qB _ _ _ _ _,BB⟩

end Go.Proofs.Ythaonijhfeemfaa.dL
