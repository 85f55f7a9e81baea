-- Written by a program of this session (wip/tools/pp.sh) out of the translation; Lean checks it.
import Derived.Test.YthaonijhfeemfaaPFnWalksEndFullx22
namespace Go.Proofs.Ythaonijhfeemfaa.dL
open Go.RowKit Go.Proofs.YthaonijhfeemfaaOwn Go.Proofs.YthaonijhfeemfaaW.bU Go.Proofs.YthaonijhfeemfaaW.fB Go.Proofs.YthaonijhfeemfaaW.iw
attribute [local go_sem] nG nH nK nL nD nE nI nJ   -- for this text's walks alone
set_option linter.unusedVariables false
set_option maxHeartbeats 8000000
set_option maxRecDepth 100000
set_option linter.unusedSimpArgs false

mutual
def bN.l0 : Nat→Int→List Int→List (List Int)→List Bool→List (List Int)→Int→Int→Option (Int × Bool)
 | 0,_,_,_,_,_,_,_=>none
 | k + 1,x0,x1,x6,x7,x32,x33,x34=>if x34 < x33 then (if 0 ≤ x34 then (if x34 < (x32.length : Int) then (if 0 < ((ah x32 x34).length : Int) then (if 1 < ((ah x32 x34).length : Int) then ((lJ.f k x0 x1 (rd (ah x32 x34) 0) (rd (ah x32 x34) 1)).bind fun alh=>(bN.l1 k x0 x1 x6 x7 x32 x33 x34 alh.1 (alh.1.length : Int) 0)) else (none)) else (none)) else (none)) else (none)) else ((jY.f k x0 x1).bind fun rF=>(bN.l2 k x0 x1 x6 x7 rF (rF.length : Int) 0))
def bN.l1 : Nat→Int→List Int→List (List Int)→List Bool→List (List Int)→Int→Int→List Int→Int→Int→Option (Int × Bool)
 | 0,_,_,_,_,_,_,_,_,_,_=>none
 | k + 1,x0,x1,x6,x7,x32,x33,x34,x50,x51,x52=>if x52 < x51 then (if 0 ≤ x52 then (if x52 < (x50.length : Int) then (if 0 ≤ (rd x50 x52) then (if (rd x50 x52) < (x7.length : Int) then (bN.l1 k x0 x1 x6 (x7.set ((rd x50 x52) : Int).toNat true) x32 x33 x34 x50 x51 (wrap64 (x52 + 1))) else (none)) else (none)) else (none)) else (none)) else (bN.l0 k x0 x1 x6 x7 x32 x33 (wrap64 (x34 + 1)))
def bN.l2 : Nat→Int→List Int→List (List Int)→List Bool→List Int→Int→Int→Option (Int × Bool)
 | 0,_,_,_,_,_,_,_=>none
 | k + 1,x0,x1,x6,x7,x63,x64,x65=>if x65 < x64 then (if 0 ≤ x65 then (if x65 < (x63.length : Int) then ((yB.f k x0 x1 (rd x63 x65)).bind fun rG=>(bN.l3 k x0 x1 x6 x7 x63 x64 x65 rG (rG.length : Int) 0)) else (none)) else (none)) else (bN.l4 k x1 x7 0 x6 (x6.length : Int) 0)
def bN.l3 : Nat→Int→List Int→List (List Int)→List Bool→List Int→Int→Int→List Int→Int→Int→Option (Int × Bool)
 | 0,_,_,_,_,_,_,_,_,_,_=>none
 | k + 1,x0,x1,x6,x7,x63,x64,x65,x72,x73,x74=>if x74 < x73 then (if 0 ≤ x74 then (if x74 < (x72.length : Int) then (if 0 ≤ (rd x72 x74) then (if (rd x72 x74) < (x7.length : Int) then (bN.l3 k x0 x1 x6 (x7.set ((rd x72 x74) : Int).toNat true) x63 x64 x65 x72 x73 (wrap64 (x74 + 1))) else (none)) else (none)) else (none)) else (none)) else (bN.l2 k x0 x1 x6 x7 x63 x64 (wrap64 (x65 + 1)))
def bN.l4 : Nat→List Int→List Bool→Int→List (List Int)→Int→Int→Option (Int × Bool)
 | 0,_,_,_,_,_,_=>none
 | k + 1,x1,x7,x18,x83,x84,x85=>if x85 < x84 then (if 0 ≤ x85 then (if x85 < (x83.length : Int) then ((fD.f k x1 (ah x83 x85)).bind fun OZ=>(if (OZ.length : Int) = 2 then (if x85 < (x7.length : Int) then (if EY false x7 x85 = true then (bN.l4 k x1 x7 x18 x83 x84 (wrap64 (x85 + 1))) else (bN.l4 k x1 x7 (wrap64 (x18 + 1)) x83 x84 (wrap64 (x85 + 1)))) else (none)) else (bN.l4 k x1 x7 x18 x83 x84 (wrap64 (x85 + 1))))) else (none)) else (none)) else (some (x18,true))
end
def bN.f (k : Nat) (a0 : Int) (l1 : List Int) : Option (Int × Bool):=(gG.f k a0 l1).bind fun Um=>(if Um = true then ((cB.f k a0).bind fun gM=>(if 0 ≤ (gM.length : Int) then (if ((gM.length : Int) : Int).toNat ≤ 281474976710656 then ((fu.f k a0 l1).bind fun jN=>(bN.l0 k a0 l1 gM (List.replicate ((gM.length : Int) : Int).toNat false) jN (jN.length : Int) 0)) else (none)) else (none))) else (some (0,false)))
theorem bN.bC : ∀ k,(∀ y0 y1 y2 y3 y4 y5 y6,LeO (bN.l0 k y0 y1 y2 y3 y4 y5 y6) (bN.l0 (k + 1) y0 y1 y2 y3 y4 y5 y6))∧(∀ y0 y1 y2 y3 y4 y5 y6 y7 y8 y9,LeO (bN.l1 k y0 y1 y2 y3 y4 y5 y6 y7 y8 y9) (bN.l1 (k + 1) y0 y1 y2 y3 y4 y5 y6 y7 y8 y9))∧(∀ y0 y1 y2 y3 y4 y5 y6,LeO (bN.l2 k y0 y1 y2 y3 y4 y5 y6) (bN.l2 (k + 1) y0 y1 y2 y3 y4 y5 y6))∧(∀ y0 y1 y2 y3 y4 y5 y6 y7 y8 y9,LeO (bN.l3 k y0 y1 y2 y3 y4 y5 y6 y7 y8 y9) (bN.l3 (k + 1) y0 y1 y2 y3 y4 y5 y6 y7 y8 y9))∧(∀ y0 y1 y2 y3 y4 y5,LeO (bN.l4 k y0 y1 y2 y3 y4 y5) (bN.l4 (k + 1) y0 y1 y2 y3 y4 y5))
 | 0=>⟨fun _ _ _ _ _ _ _=>LZ,fun _ _ _ _ _ _ _ _ _ _=>LZ,fun _ _ _ _ _ _ _=>LZ,fun _ _ _ _ _ _ _ _ _ _=>LZ,fun _ _ _ _ _ _=>LZ⟩
 | k + 1=>by
  obtain ⟨ih0,ih1,ih2,ih3,ih4⟩:=bN.bC k
  have m0:=@jY.mono
  have m1:=@fu.mono
  have m2:=@lJ.mono
  have m3:=@fD.mono
  have m4:=@yB.mono
  have m5:=@cB.mono
  have m6:=@gG.mono
  refine ⟨?_,?_,?_,?_,?_⟩ <;> intros
  all_goals (first|unfold bN.l0|unfold bN.l1|unfold bN.l2|unfold bN.l3|unfold bN.l4)
  all_goals exact MO
theorem bN.mono : ∀ a0 a1 k,LeO (bN.f k a0 a1) (bN.f (k + 1) a0 a1):=by
 intro a0 a1 k;obtain ⟨ih0,ih1,ih2,ih3,ih4⟩:=bN.bC k;unfold bN.f
 have m0:=@jY.mono
 have m1:=@fu.mono
 have m2:=@lJ.mono
 have m3:=@fD.mono
 have m4:=@yB.mono
 have m5:=@cB.mono
 have m6:=@gG.mono
 exact MO
def bN.T8 : Bool × List (List Nat × List Nat):=(true,[([],[]),([],[]),([],[]),([2],[2]),([3],[3]),([],[]),([5],[5]),([6],[6]),([0,1,4,7],[0,1,4,7]),([8],[8]),([9],[9]),([9],[9]),([10,8,0,1,2,3,4,5,6,7,8,9,10],[10]),([11,12,0,1,2,3,4,5,6,7,8,9,10,11,12],[11])])
def bN.B8 : List Nat:=[0,0,0,4,12,0,32,96,255,511,1023,1023,2047,8191]
theorem bN.ayr : fC .any (opsOf Try.f18 8) = bN.T8:=by kernel_rfl
theorem bN.auZ : lN bN.T8.2 bN.B8 = true:=by kernel_rfl
theorem bN.calls (k : Nat) (a0 : Int) (A1 : Option Addr) (c1 : Nat) (l1 : List Int) (r1 : Int) (r2 : Bool) (w : World) (hr1 : Kd.C (Kd.int .i64) w A1 l1.length l1) (hc1 : l1.length ≤ c1) (h : bN.f k a0 l1 = some (r1,r2)) :
  Calls Try.prog 18 #[.int .i64 a0,.slice A1 l1.length c1] w fun e w'=>e = .returned (.tuple #[.int .i64 r1,.bool r2])∧Below w.heap.size w w':=by
 have HR1:=AM hr1;have HC1:=AM hc1;clear hr1 hc1;have HB:=HRf w;have H : ((gG.f k a0 l1).bind fun Um=>(if Um = true then ((cB.f k a0).bind fun gM=>(if 0 ≤ (gM.length : Int) then (if ((gM.length : Int) : Int).toNat ≤ 281474976710656 then ((fu.f k a0 l1).bind fun jN=>(bN.l0 k a0 l1 gM (List.replicate ((gM.length : Int) : Int).toNat false) jN (jN.length : Int) 0)) else (none)) else (none))) else (some (0,false)))) = some (r1,r2):=h;clear h;replace H:=EA H;obtain ⟨Um,A3,H⟩:=H;by_cases c4 : Um = true
 ·subst c4;replace H:=IP H;replace H:=EA H;obtain ⟨gM,A5,H⟩:=H;replace H:=IC H;obtain ⟨c6,H⟩:=H;have iA:=ET c6;have uG:=DT c6;clear c6;replace H:=IC H;obtain ⟨c7,H⟩:=H;have kS:=ET c7;have Bb:=DT c7;clear c7;obtain ⟨amR,acU⟩ : ∃ y_ : List Bool,y_ = (List.replicate ((gM.length : Int) : Int).toNat false):=⟨_,rfl⟩;replace H : ((fu.f k a0 l1).bind fun jN=>(bN.l0 k a0 l1 gM amR jN (jN.length : Int) 0)) = some (r1,r2):=HY H acU;have ali:=AM acU;clear acU;replace H:=EA H;obtain ⟨jN,A8,H⟩:=H;have H':=AM H;clear H;go_enter Try.func18,Try.ntmps18;go_wp2_with (first|(refine GC 38 ?_;refine GM (some 23) Try.func38 (gG.calls k a0 _ _ l1 true _ (CW HR1.out) HC1.out A3.out) ?_;rintro e w' ⟨rfl,⟨nd,rfl⟩⟩;refine ⟨_,rfl,?_⟩)|(refine GC 28 ?_;refine GM (some 26) Try.func28 (cB.calls k a0 gM _ A5.out) ?_;rintro e w9 ⟨aFq,rfl,ho0,hb⟩;refine ⟨_,rfl,?_⟩;have JJ:=AM (Kd.jG ho0 (BZ BB));replace HB:=HS hb;try clear hb ho0;obtain ⟨cO,bY,uJ⟩:=Kd.jC JJ.out;subst uJ)|((with_reducible refine dG (N:=29) rfl ?_);refine Kd.ajO Kd.bool _ 4 rfl (N:=29) rfl 60 _ _ rfl (gM.length : Int) rfl rfl Try.underlying60 (.bool false) 1 akt rfl (by decide) (by omega) false (ok:=fun _=>True) (okp:=fun _=>True) rfl (fun _ hk=>hk) trivial (OD AS) (Nat.le_trans (Nat.mul_le_mul_right _ (OD AS : (gM.length : Int).toNat ≤ 281474976710656)) (by omega)) (Below.refl _ _) (Nat.le_refl _) ?_;intro O1 w11 Un hb hg_ eY;clear hg_ eY;(first|rw [← ali.out] at Un|(simp only [Int.reduceToNat] at Un;rw [← ali.out] at Un));replace JJ:=SB JJ hb;have acV:=AM (Kd.bD Un (BZ BB));replace HB:=HS hb;clear hb Un)|(refine GC 32 ?_;refine GM (some 32) Try.func32 (fu.calls k a0 _ _ l1 jN _ (CW (Kd.aQ HR1.out HB.out)) HC1.out A8.out) ?_;rintro e w13 ⟨aFr,rfl,ho0,hb⟩;refine ⟨_,rfl,?_⟩;replace acV:=RB acV hb;have alj:=AM (Kd.jG (Kd.oJ ho0 (Kd.oV (KS JJ))) (BZ BB));replace JJ:=AM (Kd.zO (KS JJ) (Kd.sN ho0) hb);replace HB:=HS hb;try clear hb ho0;obtain ⟨kR,jr,vw⟩:=Kd.jC alj.out;subst vw));go_loopg [34] k (fun kq v34 w'=>∃ (nC : List Bool) (pJ : Int),v34 = .int .i64 pJ∧ak (bN.l0 kq a0 l1 gM nC jN (jN.length : Int) pJ = some (r1,r2))∧ak (kq ≤ k)∧ak (Kd.S (Kd.slice 3 (Kd.int .i64)) 24 w' w.heap.size (fun k_=>some k_≠((.slice kR jN.length jr) : Value).ownBlock) (.slice cO gM.length bY) gM)∧ak (Kd.R Kd.bool 4 w' w.heap.size (fun _=>True) O1 nC)∧ak (Kd.S (Kd.slice 3 (Kd.int .i64)) 24 w' w.heap.size (fun k_=>some k_≠((.slice cO gM.length bY) : Value).ownBlock) (.slice kR jN.length jr) jN)∧ak (Below w.heap.size w w'))
  case atStart=>exact ⟨(amR),(0),RF,H',⟨Nat.le_refl _⟩,⟨by (with_reducible repeat (first|apply Kd.fK|apply Kd.fM|apply Kd.dB));exact Kd.dx JJ.out (fun _ hk=>hk.2)⟩,⟨KR acV⟩,⟨by (with_reducible repeat (first|apply Kd.fK|apply Kd.fM|apply Kd.dB));exact Kd.dx alj.out (fun _ hk=>hk.2)⟩,⟨BB⟩⟩
  case round =>
   clear H';try clear c1
   try clear c2
   try clear p2
   try clear c3
   try clear c4
   try clear c6
   try clear iA
   try clear uG
   try clear p6
   try clear c7
   try clear kS
   try clear Bb
   obtain ⟨nC,pJ,rfl,HA,HK1,bQ,bf,uw,HB⟩:=hrel;cases gk with
   | zero=>exact absurd HA.out (by simp [bN.l0])
   | succ k1 =>
    have H:=HA.out;clear HA;simp only [bN.l0] at H;by_cases c15 : pJ < (jN.length : Int)
    ·rw [if_pos c15] at H;have yJ:=DT c15;clear c15;replace H:=IC H;obtain ⟨c16,H⟩:=H;have Al:=DT c16;clear c16;replace H:=IC H;obtain ⟨c17,H⟩:=H;have sP:=DT c17;clear c17;replace H:=IC H;obtain ⟨c18,H⟩:=H;have zo:=DT c18;have F8 : decide (0 < (ah jN pJ).length) = true:=DT (by omega);clear c18;replace H:=IC H;obtain ⟨c19,H⟩:=H;have D8:=DT c19;have WV : decide (1 < (ah jN pJ).length) = true:=DT (by omega);clear c19;replace H:=EA H;obtain ⟨⟨uN,ays⟩,A20,H⟩:=H;try dsimp only at H
     have H':=AM H;clear H;have G9 : 0 ≤ (pJ : Int):=OD AS;have He : pJ < (jN.length : Int):=OD AS;obtain ⟨acW,aBI,aBJ,ayt,QD,IX,aiW⟩:=gT (Kd.bW uw.out).2.2 pJ G9 He;cases ayt;obtain ⟨aCZ,ash,asi,ajR⟩:=Kd.ny uw.out [] pJ G9 (by first|exact He|exact OD AS|(have e_:=(Kd.bW uw.out).1;omega));obtain ⟨aAZ,rfl,aaI⟩:=asi;have QE:=ajR 0 _ rfl;rw [Nat.add_zero,show ((Kd.slice 3 (Kd.int .i64))).sz = 1 from rfl,Nat.mul_one] at QE;replace QE:=Option.some.inj (QE.symm.trans QD);rw [QE] at aaI;have Ns:=AM (show Kd.R (Kd.int .i64) 3 _ _ _ _ (ah jN pJ) from aaI);clear QE aaI;clear ajR ash;have IY:=AM aiW;have aA0:=AM IX;clear aiW IX;replace G9:=ET G9;replace He:=ET He;try go_wp2
     replace bQ:=AM (Kd.dB bQ.out);replace bf:=AM (Kd.bF bf.out);replace uw:=AM (Kd.dB uw.out);replace Ns:=AM (Kd.bF Ns.out);replace IY:=AM (Kd.sM IY.out);replace HB:=AM (fA HB.out);have LG : 0 ≤ (0 : Int):=(by omega);have LH : 0 < ((ah jN pJ).length : Int):=OD AS;obtain ⟨WW,ayu,FB⟩:=Kd.aN (CX IY) 0 LG LH;cases ayu;have aC0 : (0 < (ah jN pJ).length) = True:=ET (by omega)
     (try rw [show ((0 : Int)).toNat = 0 from rfl] at FB)
     (try rw [Addr.add_zero'] at FB);replace LG:=ET LG;replace LH:=ET LH;have LJ : 0 ≤ (1 : Int):=(by omega);have LK : 1 < ((ah jN pJ).length : Int):=OD AS;obtain ⟨au0,ayv,FC⟩:=Kd.aN (CX IY) 1 LJ LK;obtain rfl : WW = au0:=(by injection ayv)
     (try simp only [show (1 : Int).toNat = 1 from rfl,Nat.reduceMul,Nat.reduceEqDiff,Go.Addr.add,↓reduceIte] at FC);have aC1 : (1 < (ah jN pJ).length) = True:=ET (by omega)
     (try rw [show ((1 : Int)).toNat = 1 from rfl] at FC);replace LJ:=ET LJ;replace LK:=ET LK;refine PSt (n:=14) (S:=fun w'=>w'.cell? WW = some (.int .i64 (rd (ah jN pJ) 0))∧w'.cell? ⟨WW.block,WW.off + 1,none⟩ = some (.int .i64 (rd (ah jN pJ) 1))) (ds:=[]) ⟨FB,FC⟩ (fun hHeld=>?_);refine lK bN.ayr bN.auZ (fun HT_ HW_=>?_);generalize wr.drew = w21 at bQ bf uw Ns IY HB FB FC hHeld ⊢;refine PA 0 39 HT_ ?_;refine PA 1 40 HT_ ?_;refine PA 2 41 HT_ ?_;refine PA 3 42 HT_ ?_;refine PA 5 44 HT_ ?_;refine PA 6 45 HT_ ?_;refine PB 4 43 HT_ HW_ hHeld ?_;refine PB 7 46 HT_ HW_ hHeld ?_;refine PC 8 47 HT_ (fun K hK=>?_);refine iL Try.func26 (by kernel_rfl) rfl #[.int .i64 a0,.slice A1 l1.length c1,.int .i64 (rd (ah jN pJ) 0),.int .i64 (rd (ah jN pJ) 1)] (by rfl) rfl rfl TA ?_;with_reducible refine (lJ.calls k1 a0 _ _ l1 (rd (ah jN pJ) 0) (rd (ah jN pJ) 1) uN ays _ ?aU ?aV A20.out).mono ?_
     (case aU=>exact CW (Kd.aQ HR1.out HB.out))
     (case aV=>exact HC1.out);rintro e w22 ⟨ayw,aFs,rfl,ho0,ho1,hb⟩;have mX:=LD hb hHeld.1;have qd:=LD hb hHeld.2;refine ⟨_,rfl,?_⟩;have alk:=AM (Kd.bD (Kd.dM (Kd.aM (ok':=fun k_=>True) ho0 (fun _ hk_=>trivial)) (Kd.bJ (KR Ns))) (BZ BB));replace Ns:=RO Ns ho0 hb;have aC2:=AM (Kd.nN (Kd.dz (ok':=fun k_=>some k_≠(ayw : Value).ownBlock∧some k_≠(.slice cO gM.length bY : Value).ownBlock∧some k_≠(O1 : Value).ownBlock∧some k_≠(.slice (some acW) jN.length jr : Value).ownBlock) ho1 (fun k_ hk_=>⟨hk_.2,(Kd.fresh' (Kd.oV (KS bQ)) k_ hk_.1),(Kd.fresh' (Kd.bJ (KR bf)) k_ hk_.1),(Kd.fresh' (Kd.oV (KS uw)) k_ hk_.1)⟩)) (BZ BB));replace bQ:=SO bQ ho0 hb;replace bf:=RB bf hb;replace uw:=SO uw ho0 hb;replace IY:=AM (Kd.aQ (CX IY) hb);replace HB:=HS hb;try clear hb ho0 ho1
     refine hK.out _ _ ⟨mX,qd⟩ (fun hHeld=>?_);clear hK K;refine iy (a':=?_) ?_ ?_;rotate_left
     ·show Act.put _ (some 47) _ = _;simp only [Act.put,List.setIfInBounds_toArray,List.set_cons_zero,List.set_cons_succ,dJ,eX];rfl
     refine PA 9 38 HT_ ?_;refine PA 10 48 HT_ ?_;refine PA 11 49 HT_ ?_;refine PA 12 10 HT_ ?_;refine PA 13 11 HT_ ?_;refine l8 (l5 HT_.out (by kernel_rfl)) ?_;obtain ⟨vC,uI,Gz⟩:=Kd.bG alk.out;subst Gz;try go_wp2
     go_loopg [52] k1 (fun kq v52 w'=>∃ (bI : List Bool) (wB : Int),v52 = .int .i64 wB∧ak (bN.l1 kq a0 l1 gM bI jN (jN.length : Int) pJ uN (uN.length : Int) wB = some (r1,r2))∧ak (kq ≤ k1)∧ak (Kd.S (Kd.slice 3 (Kd.int .i64)) 24 w' w.heap.size (fun k_=>some k_≠((.slice (some acW) jN.length jr) : Value).ownBlock∧some k_≠((.slice vC uN.length uI) : Value).ownBlock) (.slice cO gM.length bY) gM)∧ak (Kd.R Kd.bool 4 w' w.heap.size (fun _=>True) O1 bI)∧ak (Kd.S (Kd.slice 3 (Kd.int .i64)) 24 w' w.heap.size (fun k_=>some k_≠((.slice cO gM.length bY) : Value).ownBlock∧some k_≠((.slice vC uN.length uI) : Value).ownBlock) (.slice (some acW) jN.length jr) jN)∧ak (Kd.R (Kd.int .i64) 3 w' w.heap.size (fun _=>True) (.slice vC uN.length uI) uN)∧ak (Below w.heap.size w w'))
     case atStart=>exact ⟨(nC),(0),RF,H',⟨Nat.le_refl _⟩,⟨KS bQ⟩,⟨KR bf⟩,⟨KS uw⟩,⟨by (with_reducible repeat (first|apply Kd.dh|apply Kd.dn|apply Kd.bF));exact Kd.aM alk.out (fun _ hk=>trivial)⟩,⟨BB⟩⟩
     case round =>
      clear H';try clear c1
      try clear c2
      try clear p2
      try clear c3
      try clear c4
      try clear c6
      try clear iA
      try clear uG
      try clear p6
      try clear c7
      try clear kS
      try clear Bb
      try clear p7
      try clear q7
      try clear hx7
      try clear qi7
      try clear c15
      try clear yJ
      try clear c16
      try clear Al
      try clear c17
      try clear sP
      try clear c18
      try clear zo
      try clear F8
      try clear c19
      try clear D8
      try clear WV
      try clear QD
      try clear FB
      try clear FC
      try clear p2
      try clear p6
      try clear G9
      try clear LG
      try clear LJ
      try clear He
      try clear LH
      try clear LK
      obtain ⟨bI,wB,rfl,HA,HK2,bQ,bf,uw,WX,HB⟩:=hrel;cases gk with
      | zero=>exact absurd HA.out (by simp [bN.l1])
      | succ k2 =>
       have H:=HA.out;clear HA;simp only [bN.l1] at H;by_cases c24 : wB < (uN.length : Int)
       ·rw [if_pos c24] at H;have F9:=DT c24;clear c24;replace H:=IC H;obtain ⟨c25,H⟩:=H;have Sv:=DT c25;clear c25;replace H:=IC H;obtain ⟨c26,H⟩:=H;have Oh:=DT c26;clear c26;replace H:=IC H;obtain ⟨c27,H⟩:=H;have N7:=DT c27;clear c27;replace H:=IC H;obtain ⟨c28,H⟩:=H;have Jt:=DT c28;clear c28;obtain ⟨afz,acX⟩ : ∃ y_ : List Bool,y_ = (bI.set ((rd uN wB) : Int).toNat true):=⟨_,rfl⟩;replace H : (bN.l1 k2 a0 l1 gM afz jN (jN.length : Int) pJ uN (uN.length : Int) (wrap64 (wB + 1))) = some (r1,r2):=HY H acX;have au1:=AM acX;clear acX;have H':=AM H;clear H;have O4 : 0 ≤ (wB : Int):=OD AS;have O5 : wB < (uN.length : Int):=OD AS;obtain ⟨aC3,ayx,aaJ⟩:=Kd.aN (Kd.aA WX.out).2.2 wB O4 O5;cases ayx;replace O4:=ET O4;replace O5:=ET O5;have p29 : 0 ≤ ((rd uN wB) : Int):=OD AS;have q29 : ((rd uN wB) : Int) < ((bI.length : Int) : Int):=OD AS;obtain ⟨O6,GH,Da,amS,ayy,aFt,amT⟩:=Kd.NI bf.out (by omega)
        (first|cases Da|(injection Da with ea_ en_ ec_;(first|subst ea_|(injection ea_ with ea_;subst ea_));subst ec_;clear en_));have ayz:=AM amS;have aFu:=AM amT;clear amS ayy amT;obtain ⟨abE,aBK⟩:=Kd.Cv false bf.out ((rd uN wB) : Int) p29 q29;replace p29:=ET p29;replace q29:=ET q29;have afA:=Kd.NJ bf.out ((rd uN wB) : Int) true;go_wp2_with (first|((with_reducible refine H8 (t:=4) (p:=58) rfl ?_);refine H7 (t:=4) (p:=58) (v:=?aBL) (w1:=(wr.setCell ⟨O6,((rd uN wB) : Int).toNat,none⟩ (.bool true))) ?hg ?ho ?hn ?hr ?_;(case ho=>rfl);(case hg=>rfl);(case hn=>rfl);(case hr=>exact GS);intro w31 hw;have hg : wr.grownBy w31 (some O6):=(by rw [hw];exact afA.2);have hp_ : Kd.R Kd.bool 4 w31 w.heap.size (fun _=>True) (.slice (some ⟨O6,0,none⟩) bI.length GH) afz:=(by rw [hw,au1.out];exact afA.1);clear afA;replace bQ:=AM (Kd.aaK (v:=(.slice (some ⟨O6,0,none⟩) bI.length GH)) (KS bQ) (Kd.Aa bf.out) (by decide) hg);replace uw:=AM (Kd.aaK (v:=(.slice (some ⟨O6,0,none⟩) bI.length GH)) (KS uw) (Kd.Aa bf.out) (by decide) hg);replace WX:=AM (Kd.zQ (v:=(.slice (some ⟨O6,0,none⟩) bI.length GH)) (KR WX) (Kd.Aa bf.out) (by decide) hg);replace bf:=AM hp_;replace HB:=AM ((by rw [hw];exact eF (HB.out) ayz.out : Below w.heap.size w w31));clear hg hw hp_));go_roundg k2
        case measure=>have:=HK1.out;have:=HK2.out;omega
        case rel=>exact ⟨(afz),(wrap64 (wB + 1)),RF,H',⟨by have:=HK1.out;have:=HK2.out;omega⟩,⟨KS bQ⟩,⟨KR bf⟩,⟨KS uw⟩,⟨KR WX⟩,⟨BB⟩⟩
       ·rw [if_neg c24] at H;have F9:=DF c24;try (have au2:=F9;rw [IX] at au2)
        clear c24;have H':=AM H;clear H;go_wp2;go_roundg k2
        case measure=>have:=HK1.out;have:=HK2.out;omega
        case rel=>exact ⟨(bI),(wrap64 (pJ + 1)),RF,H',⟨by have:=HK1.out;have:=HK2.out;omega⟩,⟨by (with_reducible repeat (first|apply Kd.fK|apply Kd.fM|apply Kd.dB));exact Kd.dx bQ.out (fun _ hk=>hk.1)⟩,⟨KR bf⟩,⟨by (with_reducible repeat (first|apply Kd.fK|apply Kd.fM|apply Kd.dB));exact Kd.dx uw.out (fun _ hk=>hk.1)⟩,⟨BB⟩⟩
    ·rw [if_neg c15] at H;have yJ:=DF c15;try (have au3:=yJ;rw [IX] at au3)
     clear c15;replace H:=EA H;obtain ⟨rF,A32,H⟩:=H;have H':=AM H;clear H;go_wp2_with (first|(refine GC 40 ?_;refine GM (some 63) Try.func40 (jY.calls k1 a0 _ _ l1 rF _ (CW (Kd.aQ HR1.out HB.out)) HC1.out A32.out) ?_;rintro e w33 ⟨aFv,rfl,ho0,hb⟩;refine ⟨_,rfl,?_⟩;replace bQ:=SO bQ ho0 hb;replace bf:=RB bf hb;replace uw:=SO uw ho0 hb;have alm:=AM (Kd.bD ho0 (BZ BB));replace HB:=HS hb;try clear hb ho0;obtain ⟨afe,OQ,aff⟩:=Kd.bG alm.out;subst aff));go_loopg [65] k1 (fun kq v65 w'=>∃ (bI : List Bool) (AB : Int),v65 = .int .i64 AB∧ak (bN.l2 kq a0 l1 gM bI rF (rF.length : Int) AB = some (r1,r2))∧ak (kq ≤ k1)∧ak (Kd.S (Kd.slice 3 (Kd.int .i64)) 24 w' w.heap.size (fun k_=>some k_≠((.slice afe rF.length OQ) : Value).ownBlock) (.slice cO gM.length bY) gM)∧ak (Kd.R Kd.bool 4 w' w.heap.size (fun _=>True) O1 bI)∧ak (Kd.R (Kd.int .i64) 3 w' w.heap.size (fun _=>True) (.slice afe rF.length OQ) rF)∧ak (Below w.heap.size w w'))
     case atStart=>exact ⟨(nC),(0),RF,H',⟨Nat.le_refl _⟩,⟨by (with_reducible repeat (first|apply Kd.fK|apply Kd.fM|apply Kd.dB));exact Kd.dx bQ.out (fun _ hk=>hk.2)⟩,⟨KR bf⟩,⟨KR alm⟩,⟨BB⟩⟩
     case round =>
      clear H';try clear c1
      try clear c2
      try clear p2
      try clear q2
      try clear hx2
      try clear hf2
      try clear c3
      try clear c4
      try clear c6
      try clear iA
      try clear uG
      try clear p6
      try clear c7
      try clear kS
      try clear Bb
      try clear p7
      try clear q7
      try clear hx7
      try clear qi7
      try clear c15
      try clear yJ
      try clear c16
      try clear Al
      try clear c17
      try clear sP
      try clear c18
      try clear zo
      try clear F8
      try clear c19
      try clear D8
      try clear WV
      try clear c24
      try clear F9
      try clear c25
      try clear Sv
      try clear c26
      try clear Oh
      try clear c27
      try clear N7
      try clear c28
      try clear Jt
      try clear p29
      try clear q29
      try clear hx29
      try clear amU
      try clear c32
      try clear abE
      try clear QD
      try clear FB
      try clear FC
      try clear aaJ
      try clear p2
      try clear p29
      try clear p6
      try clear p7
      try clear G9
      try clear LG
      try clear LJ
      try clear O4
      try clear q29
      try clear q7
      try clear He
      try clear LH
      try clear LK
      try clear O5
      obtain ⟨bI,AB,rfl,HA,HK2,bQ,bf,CK,HB⟩:=hrel;cases gk with
      | zero=>exact absurd HA.out (by simp [bN.l2])
      | succ k2 =>
       have H:=HA.out;clear HA;simp only [bN.l2] at H;by_cases c35 : AB < (rF.length : Int)
       ·rw [if_pos c35] at H;have Sd:=DT c35;clear c35;replace H:=IC H;obtain ⟨c36,H⟩:=H;have aln:=DT c36;clear c36;replace H:=IC H;obtain ⟨c37,H⟩:=H;have zx:=DT c37;clear c37;replace H:=EA H;obtain ⟨rG,A38,H⟩:=H;have H':=AM H;clear H;have Uo : 0 ≤ (AB : Int):=OD AS;have Uq : AB < (rF.length : Int):=OD AS;obtain ⟨acY,ayA,aiX⟩:=Kd.aN (Kd.aA CK.out).2.2 AB Uo Uq;cases ayA;replace Uo:=ET Uo;replace Uq:=ET Uq;go_wp2_with (first|(refine GC 44 ?_;refine GM (some 72) Try.func44 (yB.calls k2 a0 _ _ l1 (rd rF AB) rG _ (CW (Kd.aQ HR1.out HB.out)) HC1.out A38.out) ?_;rintro e w39 ⟨aFw,rfl,ho0,hb⟩;refine ⟨_,rfl,?_⟩;replace bQ:=SO bQ ho0 hb;replace bf:=RB bf hb;have alo:=AM (Kd.bD (Kd.dM ho0 (Kd.bJ (KR CK))) (BZ BB));replace CK:=RO CK ho0 hb;replace HB:=HS hb;try clear hb ho0;obtain ⟨afB,afC,ayB⟩:=Kd.bG alo.out;subst ayB));go_loopg [74] k2 (fun kq v74 w'=>∃ (Dk : List Bool) (wC : Int),v74 = .int .i64 wC∧ak (bN.l3 kq a0 l1 gM Dk rF (rF.length : Int) AB rG (rG.length : Int) wC = some (r1,r2))∧ak (kq ≤ k2)∧ak (Kd.S (Kd.slice 3 (Kd.int .i64)) 24 w' w.heap.size (fun k_=>some k_≠((.slice (some acY) rF.length OQ) : Value).ownBlock∧some k_≠((.slice afB rG.length afC) : Value).ownBlock) (.slice cO gM.length bY) gM)∧ak (Kd.R Kd.bool 4 w' w.heap.size (fun _=>True) O1 Dk)∧ak (Kd.R (Kd.int .i64) 3 w' w.heap.size (fun k_=>some k_≠((.slice afB rG.length afC) : Value).ownBlock) (.slice (some acY) rF.length OQ) rF)∧ak (Kd.R (Kd.int .i64) 3 w' w.heap.size (fun k_=>some k_≠((.slice (some acY) rF.length OQ) : Value).ownBlock) (.slice afB rG.length afC) rG)∧ak (Below w.heap.size w w'))
        case atStart=>exact ⟨(bI),(0),RF,H',⟨Nat.le_refl _⟩,⟨KS bQ⟩,⟨KR bf⟩,⟨by (with_reducible repeat (first|apply Kd.dh|apply Kd.dn|apply Kd.bF));exact Kd.aM CK.out (fun _ hk=>hk.2)⟩,⟨by (with_reducible repeat (first|apply Kd.dh|apply Kd.dn|apply Kd.bF));exact Kd.aM alo.out (fun _ hk=>hk.2)⟩,⟨BB⟩⟩
        case round =>
         clear H';try clear c1
         try clear c2
         try clear p2
         try clear q2
         try clear hx2
         try clear hf2
         try clear c3
         try clear c4
         try clear c6
         try clear iA
         try clear uG
         try clear p6
         try clear c7
         try clear kS
         try clear Bb
         try clear p7
         try clear q7
         try clear hx7
         try clear qi7
         try clear p8
         try clear q8
         try clear hx8
         try clear c15
         try clear yJ
         try clear c16
         try clear Al
         try clear c17
         try clear sP
         try clear c18
         try clear zo
         try clear F8
         try clear c19
         try clear D8
         try clear WV
         try clear c24
         try clear F9
         try clear c25
         try clear Sv
         try clear c26
         try clear Oh
         try clear c27
         try clear N7
         try clear c28
         try clear Jt
         try clear p29
         try clear q29
         try clear hx29
         try clear amU
         try clear c32
         try clear c35
         try clear Sd
         try clear c36
         try clear aln
         try clear c37
         try clear zx
         try clear c38
         try clear c40
         try clear abE
         try clear QD
         try clear FB
         try clear FC
         try clear aaJ
         try clear aiX
         try clear p2
         try clear p29
         try clear p6
         try clear p7
         try clear G9
         try clear LG
         try clear LJ
         try clear O4
         try clear Uo
         try clear q2
         try clear q29
         try clear q7
         try clear He
         try clear LH
         try clear LK
         try clear O5
         try clear Uq
         obtain ⟨Dk,wC,rfl,HA,HK3,bQ,bf,CK,WY,HB⟩:=hrel;cases gk with
         | zero=>exact absurd HA.out (by simp [bN.l3])
         | succ k3 =>
          have H:=HA.out;clear HA;simp only [bN.l3] at H;by_cases c41 : wC < (rG.length : Int)
          ·rw [if_pos c41] at H;have acZ:=DT c41;clear c41;replace H:=IC H;obtain ⟨c42,H⟩:=H;have au4:=DT c42;clear c42;replace H:=IC H;obtain ⟨c43,H⟩:=H;have au5:=DT c43;clear c43;replace H:=IC H;obtain ⟨c44,H⟩:=H;have WZ:=DT c44;clear c44;replace H:=IC H;obtain ⟨c45,H⟩:=H;have au6:=DT c45;clear c45;obtain ⟨afD,ac0⟩ : ∃ y_ : List Bool,y_ = (Dk.set ((rd rG wC) : Int).toNat true):=⟨_,rfl⟩;replace H : (bN.l3 k3 a0 l1 gM afD rF (rF.length : Int) AB rG (rG.length : Int) (wrap64 (wC + 1))) = some (r1,r2):=HY H ac0;have au7:=AM ac0;clear ac0;have H':=AM H;clear H;have Yn : 0 ≤ (wC : Int):=OD AS;have Yo : wC < (rG.length : Int):=OD AS;obtain ⟨aC4,ayC,aqD⟩:=Kd.aN (Kd.aA WY.out).2.2 wC Yn Yo;cases ayC;replace Yn:=ET Yn;replace Yo:=ET Yo;have p46 : 0 ≤ ((rd rG wC) : Int):=OD AS;have q46 : ((rd rG wC) : Int) < ((Dk.length : Int) : Int):=OD AS;obtain ⟨O7,OP,TW,amV,ayD,aFx,amW⟩:=Kd.NI bf.out (by omega)
           (first|cases TW|(injection TW with ea_ en_ ec_;(first|subst ea_|(injection ea_ with ea_;subst ea_));subst ec_;clear en_));have ayE:=AM amV;have aFy:=AM amW;clear amV ayD amW;obtain ⟨asj,aBM⟩:=Kd.Cv false bf.out ((rd rG wC) : Int) p46 q46;replace p46:=ET p46;replace q46:=ET q46;have afE:=Kd.NJ bf.out ((rd rG wC) : Int) true;go_wp2_with (first|((with_reducible refine H8 (t:=4) (p:=80) rfl ?_);refine H7 (t:=4) (p:=80) (v:=?aBN) (w1:=(wr.setCell ⟨O7,((rd rG wC) : Int).toNat,none⟩ (.bool true))) ?hg ?ho ?hn ?hr ?_;(case ho=>rfl);(case hg=>rfl);(case hn=>rfl);(case hr=>exact GS);intro w48 hw;have hg : wr.grownBy w48 (some O7):=(by rw [hw];exact afE.2);have hp_ : Kd.R Kd.bool 4 w48 w.heap.size (fun _=>True) (.slice (some ⟨O7,0,none⟩) Dk.length OP) afD:=(by rw [hw,au7.out];exact afE.1);clear afE;replace bQ:=AM (Kd.aaK (v:=(.slice (some ⟨O7,0,none⟩) Dk.length OP)) (KS bQ) (Kd.Aa bf.out) (by decide) hg);replace CK:=AM (Kd.zQ (v:=(.slice (some ⟨O7,0,none⟩) Dk.length OP)) (KR CK) (Kd.Aa bf.out) (by decide) hg);replace WY:=AM (Kd.zQ (v:=(.slice (some ⟨O7,0,none⟩) Dk.length OP)) (KR WY) (Kd.Aa bf.out) (by decide) hg);replace bf:=AM hp_;replace HB:=AM ((by rw [hw];exact eF (HB.out) ayE.out : Below w.heap.size w w48));clear hg hw hp_));go_roundg k3
           case measure=>have:=HK1.out;have:=HK2.out;have:=HK3.out;omega
           case rel=>exact ⟨(afD),(wrap64 (wC + 1)),RF,H',⟨by have:=HK1.out;have:=HK2.out;have:=HK3.out;omega⟩,⟨KS bQ⟩,⟨KR bf⟩,⟨KR CK⟩,⟨KR WY⟩,⟨BB⟩⟩
          ·rw [if_neg c41] at H;have acZ:=DF c41;try (have au8:=acZ;rw [IX] at au8)
           clear c41;have H':=AM H;clear H;go_wp2;go_roundg k3
           case measure=>have:=HK1.out;have:=HK2.out;have:=HK3.out;omega
           case rel=>exact ⟨(Dk),(wrap64 (AB + 1)),RF,H',⟨by have:=HK1.out;have:=HK2.out;have:=HK3.out;omega⟩,⟨by (with_reducible repeat (first|apply Kd.fK|apply Kd.fM|apply Kd.dB));exact Kd.dx bQ.out (fun _ hk=>hk.1)⟩,⟨KR bf⟩,⟨by (with_reducible repeat (first|apply Kd.dh|apply Kd.dn|apply Kd.bF));exact Kd.aM CK.out (fun _ hk=>trivial)⟩,⟨BB⟩⟩
       ·rw [if_neg c35] at H;have Sd:=DF c35;try (have au9:=Sd;rw [IX] at au9)
        clear c35;have H':=AM H;clear H;go_wp2;go_loopg [18,85] k2 (fun kq v18 v85 w'=>∃ (Ga : Int) (kQ : Int),v18 = .int .i64 Ga∧v85 = .int .i64 kQ∧ak (bN.l4 kq l1 bI Ga gM (gM.length : Int) kQ = some (r1,r2))∧ak (kq ≤ k2)∧ak (Kd.R Kd.bool 4 w' w.heap.size (fun _=>True) O1 bI)∧ak (Kd.S (Kd.slice 3 (Kd.int .i64)) 24 w' w.heap.size (fun _=>True) (.slice cO gM.length bY) gM)∧ak (Below w.heap.size w w'))
        case atStart=>exact ⟨(0),(0),RF,RF,H',⟨Nat.le_refl _⟩,⟨KR bf⟩,⟨by (with_reducible repeat (first|apply Kd.fK|apply Kd.fM|apply Kd.dB));exact Kd.dx bQ.out (fun _ hk=>trivial)⟩,⟨BB⟩⟩
        case round =>
         clear H';try clear c1
         try clear c2
         try clear p2
         try clear q2
         try clear hx2
         try clear hf2
         try clear c3
         try clear c4
         try clear p4
         try clear q4
         try clear hx4
         try clear hf4
         try clear c6
         try clear iA
         try clear uG
         try clear p6
         try clear c7
         try clear kS
         try clear Bb
         try clear p7
         try clear q7
         try clear hx7
         try clear qi7
         try clear p8
         try clear q8
         try clear hx8
         try clear c15
         try clear yJ
         try clear c16
         try clear Al
         try clear c17
         try clear sP
         try clear c18
         try clear zo
         try clear F8
         try clear c19
         try clear D8
         try clear WV
         try clear c24
         try clear F9
         try clear c25
         try clear Sv
         try clear c26
         try clear Oh
         try clear c27
         try clear N7
         try clear c28
         try clear Jt
         try clear p29
         try clear q29
         try clear hx29
         try clear amU
         try clear c32
         try clear c35
         try clear Sd
         try clear c36
         try clear aln
         try clear c37
         try clear zx
         try clear c38
         try clear c40
         try clear c41
         try clear acZ
         try clear c42
         try clear au4
         try clear c43
         try clear au5
         try clear c44
         try clear WZ
         try clear c45
         try clear au6
         try clear p46
         try clear q46
         try clear aFz
         try clear aFA
         try clear abE
         try clear asj
         try clear QD
         try clear FB
         try clear FC
         try clear aaJ
         try clear aiX
         try clear aqD
         try clear p2
         try clear p29
         try clear p46
         try clear p6
         try clear p7
         try clear G9
         try clear LG
         try clear LJ
         try clear O4
         try clear p8
         try clear Uo
         try clear Yn
         try clear q2
         try clear q29
         try clear q46
         try clear q7
         try clear He
         try clear LH
         try clear LK
         try clear O5
         try clear q8
         try clear Uq
         try clear Yo
         obtain ⟨Ga,kQ,rfl,rfl,HA,HK3,bf,qP,HB⟩:=hrel;cases gk with
         | zero=>exact absurd HA.out (by simp [bN.l4])
         | succ k3 =>
          have H:=HA.out;clear HA;simp only [bN.l4] at H;by_cases c49 : kQ < (gM.length : Int)
          ·rw [if_pos c49] at H;have Oi:=DT c49;clear c49;replace H:=IC H;obtain ⟨c50,H⟩:=H;have ac1:=DT c50;clear c50;replace H:=IC H;obtain ⟨c51,H⟩:=H;have ac2:=DT c51;clear c51;replace H:=EA H;obtain ⟨OZ,A52,H⟩:=H;by_cases c53 : (OZ.length : Int) = 2
           ·rw [if_pos c53] at H;have ava:=QT c53;have avb:=bne_eq_false_iff_eq.mpr c53;clear c53;replace H:=IC H;obtain ⟨c54,H⟩:=H;have aC5:=DT c54;clear c54;obtain ⟨amX,ac3⟩ : ∃ b_ : Bool,b_ = (EY false bI kQ):=⟨_,rfl⟩;replace H : (if amX = true then (bN.l4 k3 l1 bI Ga gM (gM.length : Int) (wrap64 (kQ + 1))) else (bN.l4 k3 l1 bI (wrap64 (Ga + 1)) gM (gM.length : Int) (wrap64 (kQ + 1)))) = some (r1,r2):=by rw [← ac3] at H;exact H
            have alp:=AM ac3;clear ac3;by_cases c56 : amX = true
            ·subst c56;replace H:=IP H;have H':=AM H;clear H;have xZ : 0 ≤ (kQ : Int):=OD AS;have yc : kQ < (gM.length : Int):=OD AS;obtain ⟨alq,ajS,ajT,Ur,QF,FD,FE⟩:=gT (Kd.bW qP.out).2.2 kQ xZ yc;cases Ur;obtain ⟨alr,RL,RN,F3⟩:=Kd.ny qP.out [] kQ xZ (by first|exact yc|exact OD AS|(have e_:=(Kd.bW qP.out).1;omega));obtain ⟨aiY,rfl,Ab⟩:=RN;have tY:=F3 0 _ rfl;rw [Nat.add_zero,show ((Kd.slice 3 (Kd.int .i64))).sz = 1 from rfl,Nat.mul_one] at tY;replace tY:=Option.some.inj (tY.symm.trans QF);rw [tY] at Ab;have Ac:=AM (show Kd.R (Kd.int .i64) 3 _ _ _ _ (ah gM kQ) from Ab);clear tY Ab;clear F3 RL;have Ad:=AM FE;have QG:=AM FD;clear FE FD;replace xZ:=ET xZ;replace yc:=ET yc;go_wp2_with (first|(refine GC 45 ?_;refine GM (some 92) Try.func45 (fD.calls k3 _ _ l1 _ _ (ah gM kQ) OZ _ (CW (Kd.aQ HR1.out HB.out)) HC1.out (CX Ad) QG.out A52.out) ?_;rintro e w57 ⟨amY,rfl,ho0,hb⟩;refine ⟨_,rfl,?_⟩;replace bf:=RB bf hb;have Sw:=AM (Kd.jG (Kd.oJ (Kd.oJ ho0 (Kd.oV (KS qP))) (Kd.bJ (KR Ac))) (BZ BB));replace qP:=AM (Kd.zO (KS qP) (Kd.sN ho0) hb);replace Ac:=RB Ac hb;replace Ad:=AM (Kd.aQ (CX Ad) hb);replace HB:=HS hb;try clear hb ho0;obtain ⟨aFB,aFC,ayF⟩:=Kd.jC Sw.out;subst ayF;obtain ⟨aFD,aFE,ayG⟩:=Kd.bG bf.out;subst ayG;have LM : 0 ≤ (kQ : Int):=OD AS;have LP : kQ < (bI.length : Int):=OD AS;obtain ⟨avc,afF,aaL⟩:=Kd.aiZ (Kd.aA bf.out).2.2 kQ LM LP;(try rw [← alp.out] at aaL);cases afF;replace LM:=ET LM;replace LP:=ET LP));go_roundg k3
             case measure=>have:=HK1.out;have:=HK2.out;have:=HK3.out;omega
             case rel=>exact ⟨(Ga),(wrap64 (kQ + 1)),RF,RF,H',⟨by have:=HK1.out;have:=HK2.out;have:=HK3.out;omega⟩,⟨KR bf⟩,⟨by (with_reducible repeat (first|apply Kd.fK|apply Kd.fM|apply Kd.dB));exact Kd.dx qP.out (fun _ hk=>trivial)⟩,⟨BB⟩⟩
            ·replace c56:=NF c56;subst c56;replace H:=IN H;have H':=AM H;clear H;have xZ : 0 ≤ (kQ : Int):=OD AS;have yc : kQ < (gM.length : Int):=OD AS;obtain ⟨alq,ajS,ajT,Ur,QF,FD,FE⟩:=gT (Kd.bW qP.out).2.2 kQ xZ yc;cases Ur;obtain ⟨alr,RL,RN,F3⟩:=Kd.ny qP.out [] kQ xZ (by first|exact yc|exact OD AS|(have e_:=(Kd.bW qP.out).1;omega));obtain ⟨aiY,rfl,Ab⟩:=RN;have tY:=F3 0 _ rfl;rw [Nat.add_zero,show ((Kd.slice 3 (Kd.int .i64))).sz = 1 from rfl,Nat.mul_one] at tY;replace tY:=Option.some.inj (tY.symm.trans QF);rw [tY] at Ab;have Ac:=AM (show Kd.R (Kd.int .i64) 3 _ _ _ _ (ah gM kQ) from Ab);clear tY Ab;clear F3 RL;have Ad:=AM FE;have QG:=AM FD;clear FE FD;replace xZ:=ET xZ;replace yc:=ET yc;go_wp2_with (first|(refine GC 45 ?_;refine GM (some 92) Try.func45 (fD.calls k3 _ _ l1 _ _ (ah gM kQ) OZ _ (CW (Kd.aQ HR1.out HB.out)) HC1.out (CX Ad) QG.out A52.out) ?_;rintro e w60 ⟨amY,rfl,ho0,hb⟩;refine ⟨_,rfl,?_⟩;replace bf:=RB bf hb;have Sw:=AM (Kd.jG (Kd.oJ (Kd.oJ ho0 (Kd.oV (KS qP))) (Kd.bJ (KR Ac))) (BZ BB));replace qP:=AM (Kd.zO (KS qP) (Kd.sN ho0) hb);replace Ac:=RB Ac hb;replace Ad:=AM (Kd.aQ (CX Ad) hb);replace HB:=HS hb;try clear hb ho0;obtain ⟨aFF,aFG,ayH⟩:=Kd.jC Sw.out;subst ayH;obtain ⟨aFH,aFI,ayI⟩:=Kd.bG bf.out;subst ayI;have LM : 0 ≤ (kQ : Int):=OD AS;have LP : kQ < (bI.length : Int):=OD AS;obtain ⟨avc,afF,aaL⟩:=Kd.aiZ (Kd.aA bf.out).2.2 kQ LM LP;(try rw [← alp.out] at aaL);cases afF;replace LM:=ET LM;replace LP:=ET LP));go_roundg k3
             case measure=>have:=HK1.out;have:=HK2.out;have:=HK3.out;omega
             case rel=>exact ⟨(wrap64 (Ga + 1)),(wrap64 (kQ + 1)),RF,RF,H',⟨by have:=HK1.out;have:=HK2.out;have:=HK3.out;omega⟩,⟨KR bf⟩,⟨by (with_reducible repeat (first|apply Kd.fK|apply Kd.fM|apply Kd.dB));exact Kd.dx qP.out (fun _ hk=>trivial)⟩,⟨BB⟩⟩
           ·rw [if_neg c53] at H;have ava:=beq_eq_false_iff_ne.mpr c53;have avb:=bne_iff_ne.mpr c53;have H':=AM H;clear H;have xZ : 0 ≤ (kQ : Int):=OD AS;have yc : kQ < (gM.length : Int):=OD AS;obtain ⟨alq,ajS,ajT,Ur,QF,FD,FE⟩:=gT (Kd.bW qP.out).2.2 kQ xZ yc;cases Ur;obtain ⟨alr,RL,RN,F3⟩:=Kd.ny qP.out [] kQ xZ (by first|exact yc|exact OD AS|(have e_:=(Kd.bW qP.out).1;omega));obtain ⟨aiY,rfl,Ab⟩:=RN;have tY:=F3 0 _ rfl;rw [Nat.add_zero,show ((Kd.slice 3 (Kd.int .i64))).sz = 1 from rfl,Nat.mul_one] at tY;replace tY:=Option.some.inj (tY.symm.trans QF);rw [tY] at Ab;have Ac:=AM (show Kd.R (Kd.int .i64) 3 _ _ _ _ (ah gM kQ) from Ab);clear tY Ab;clear F3 RL;have Ad:=AM FE;have QG:=AM FD;clear FE FD;replace xZ:=ET xZ;replace yc:=ET yc;go_wp2_with (first|(refine GC 45 ?_;refine GM (some 92) Try.func45 (fD.calls k3 _ _ l1 _ _ (ah gM kQ) OZ _ (CW (Kd.aQ HR1.out HB.out)) HC1.out (CX Ad) QG.out A52.out) ?_;rintro e w63 ⟨amY,rfl,ho0,hb⟩;refine ⟨_,rfl,?_⟩;replace bf:=RB bf hb;have Sw:=AM (Kd.jG (Kd.oJ (Kd.oJ ho0 (Kd.oV (KS qP))) (Kd.bJ (KR Ac))) (BZ BB));replace qP:=AM (Kd.zO (KS qP) (Kd.sN ho0) hb);replace Ac:=RB Ac hb;replace Ad:=AM (Kd.aQ (CX Ad) hb);replace HB:=HS hb;try clear hb ho0;obtain ⟨aFJ,aFK,ayJ⟩:=Kd.jC Sw.out;subst ayJ));go_roundg k3
            case measure=>have:=HK1.out;have:=HK2.out;have:=HK3.out;omega
            case rel=>exact ⟨(Ga),(wrap64 (kQ + 1)),RF,RF,H',⟨by have:=HK1.out;have:=HK2.out;have:=HK3.out;omega⟩,⟨KR bf⟩,⟨by (with_reducible repeat (first|apply Kd.fK|apply Kd.fM|apply Kd.dB));exact Kd.dx qP.out (fun _ hk=>trivial)⟩,⟨BB⟩⟩
          ·rw [if_neg c49] at H;have Oi:=DF c49;try (have avd:=Oi;rw [IX] at avd)
           clear c49;simp only [Option.some.injEq,Prod.mk.injEq] at H;obtain ⟨rfl,rfl⟩:=H;go_wp2;go_ret2;exact ⟨RE,BB⟩
 ·replace c4:=NF c4;subst c4;replace H:=IN H;simp only [Option.some.injEq,Prod.mk.injEq] at H;obtain ⟨rfl,rfl⟩:=H;go_enter Try.func18,Try.ntmps18;go_wp2_with (first|(refine GC 38 ?_;refine GM (some 23) Try.func38 (gG.calls k a0 _ _ l1 false _ (CW HR1.out) HC1.out A3.out) ?_;rintro e w' ⟨rfl,⟨nd,rfl⟩⟩;refine ⟨_,rfl,?_⟩));go_ret2;exact ⟨RE,BB⟩

end Go.Proofs.Ythaonijhfeemfaa.dL
