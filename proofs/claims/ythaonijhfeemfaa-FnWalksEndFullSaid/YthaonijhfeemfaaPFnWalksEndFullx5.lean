-- Written by a program of this session (wip/tools/pp.sh) out of the translation; Lean checks it.
import Derived.Test.YthaonijhfeemfaaPFnWalksEndFullx4
namespace Go.Proofs.Ythaonijhfeemfaa.dL
open Go.RowKit Go.Proofs.YthaonijhfeemfaaOwn Go.Proofs.YthaonijhfeemfaaW.bU Go.Proofs.YthaonijhfeemfaaW.fB Go.Proofs.YthaonijhfeemfaaW.iw
attribute [local go_sem] nG nH nK nL nD nE nI nJ   -- for this text's walks alone
set_option linter.unusedVariables false
set_option maxHeartbeats 8000000
set_option maxRecDepth 100000
set_option linter.unusedSimpArgs false

mutual
def bT.l0 : Nat→List (List Int)→List (S86)→List (S86)→Int→Int→Option ((List (List Int)))
 | 0,_,_,_,_,_=>none
 | k + 1,x3,x4,x12,x13,x14=>if x14 < x13 then (if 0 ≤ x14 then (if x14 < (x12.length : Int) then (bT.l1 k x3 x4 x14 (wrap64 (x14 + 1)) x12 x13 x14 ((aI x12 x14).f0) ((aI x12 x14).f1) ((aI x12 x14).f2)) else (none)) else (none)) else (some x3)
def bT.l1 : Nat→List (List Int)→List (S86)→Int→Int→List (S86)→Int→Int→Int→Int→Int→Option ((List (List Int)))
 | 0,_,_,_,_,_,_,_,_,_,_=>none
 | k + 1,x3,x4,x5,x7,x12,x13,x14,Af,Ag,Ah=>if x7 < (x4.length : Int) then (bT.l2 k x3 x4 x5 x7 (wrap64 (x7 + 1)) x12 x13 x14 Af Ag Ah) else (bT.l0 k x3 x4 x12 x13 (wrap64 (x14 + 1)))
def bT.l2 : Nat→List (List Int)→List (S86)→Int→Int→Int→List (S86)→Int→Int→Int→Int→Int→Option ((List (List Int)))
 | 0,_,_,_,_,_,_,_,_,_,_,_=>none
 | k + 1,x3,x4,x5,x7,x8,x12,x13,x14,Af,Ag,Ah=>if x8 < (x4.length : Int) then (if 0 ≤ x7 then (if x7 < (x4.length : Int) then ((gL.f k Af Ag Ah ((aI x4 x7).f0) ((aI x4 x7).f1) ((aI x4 x7).f2)).bind fun YV=>(bT.j3 k x3 x4 x5 x7 x8 x12 x13 x14 YV Af Ag Ah)) else (none)) else (none)) else (bT.j3 k x3 x4 x5 x7 x8 x12 x13 x14 false Af Ag Ah)
def bT.j3 : Nat→List (List Int)→List (S86)→Int→Int→Int→List (S86)→Int→Int→Bool→Int→Int→Int→Option ((List (List Int)))
 | 0,_,_,_,_,_,_,_,_,_,_,_,_=>none
 | k + 1,x3,x4,x5,x7,x8,x12,x13,x14,x40,Af,Ag,Ah=>if x40 = true then (if 0 ≤ x8 then (if x8 < (x4.length : Int) then ((gL.f k Af Ag Ah ((aI x4 x8).f0) ((aI x4 x8).f1) ((aI x4 x8).f2)).bind fun agi=>(if agi = true then (if 0 ≤ x7 then (if x7 < (x4.length : Int) then ((gL.f k ((aI x4 x7).f0) ((aI x4 x7).f1) ((aI x4 x7).f2) ((aI x4 x8).f0) ((aI x4 x8).f1) ((aI x4 x8).f2)).bind fun agj=>(if agj = true then (if x3.length < 5864062014805 then (bT.l2 k (x3 ++ [(([x5,x7,x8] : List Int))]) x4 x5 x7 (wrap64 (x8 + 1)) x12 x13 x14 Af Ag Ah) else (none)) else (bT.l2 k x3 x4 x5 x7 (wrap64 (x8 + 1)) x12 x13 x14 Af Ag Ah))) else (none)) else (none)) else (bT.l2 k x3 x4 x5 x7 (wrap64 (x8 + 1)) x12 x13 x14 Af Ag Ah))) else (none)) else (none)) else (bT.l1 k x3 x4 x5 (wrap64 (x7 + 1)) x12 x13 x14 Af Ag Ah)
end
def bT.f (k : Nat) (a0 : Int) : Option ((List (List Int))):=(iq.f k a0).bind fun aH=>(bT.l0 k (([] : List (List Int))) aH aH (aH.length : Int) 0)
theorem bT.bC : ∀ k,(∀ y0 y1 y2 y3 y4,LeO (bT.l0 k y0 y1 y2 y3 y4) (bT.l0 (k + 1) y0 y1 y2 y3 y4))∧(∀ y0 y1 y2 y3 y4 y5 y6 y7 y8 y9,LeO (bT.l1 k y0 y1 y2 y3 y4 y5 y6 y7 y8 y9) (bT.l1 (k + 1) y0 y1 y2 y3 y4 y5 y6 y7 y8 y9))∧(∀ y0 y1 y2 y3 y4 y5 y6 y7 y8 y9 y10,LeO (bT.l2 k y0 y1 y2 y3 y4 y5 y6 y7 y8 y9 y10) (bT.l2 (k + 1) y0 y1 y2 y3 y4 y5 y6 y7 y8 y9 y10))∧(∀ y0 y1 y2 y3 y4 y5 y6 y7 y8 y9 y10 y11,LeO (bT.j3 k y0 y1 y2 y3 y4 y5 y6 y7 y8 y9 y10 y11) (bT.j3 (k + 1) y0 y1 y2 y3 y4 y5 y6 y7 y8 y9 y10 y11))
 | 0=>⟨fun _ _ _ _ _=>LZ,fun _ _ _ _ _ _ _ _ _ _=>LZ,fun _ _ _ _ _ _ _ _ _ _ _=>LZ,fun _ _ _ _ _ _ _ _ _ _ _ _=>LZ⟩
 | k + 1=>by
  obtain ⟨ih0,ih1,ih2,ih3⟩:=bT.bC k
  have m0:=@gL.mono
  have m1:=@iq.mono
  refine ⟨?_,?_,?_,?_⟩ <;> intros
  all_goals (first|unfold bT.l0|unfold bT.l1|unfold bT.l2|unfold bT.j3)
  all_goals exact MO
theorem bT.mono : ∀ a0 k,LeO (bT.f k a0) (bT.f (k + 1) a0):=by
 intro a0 k;obtain ⟨ih0,ih1,ih2,ih3⟩:=bT.bC k;unfold bT.f
 have m0:=@gL.mono
 have m1:=@iq.mono
 exact MO
def bT.T9 : Bool × List (List Nat × List Nat):=(true,[([],[]),([],[]),([1],[1]),([0,2],[0,2]),([3],[3]),([4],[4]),([4],[4]),([4],[4]),([6,7,4],[4,6,7]),([8,4],[4,8]),([5,9,4,4],[4,5,9]),([4,10],[4,10])])
def bT.B9 : List Nat:=[0,0,2,7,15,31,31,31,223,479,1023,2047]
theorem bT.KY : fC .any (opsOf Try.f49 9) = bT.T9:=by kernel_rfl
theorem bT.JB : lN bT.T9.2 bT.B9 = true:=by kernel_rfl
def bT.T11 : Bool × List (List Nat × List Nat):=(true,[([],[]),([],[]),([],[]),([1,2],[1,2]),([3],[3]),([0,4],[0,4]),([5,5],[5]),([6],[6]),([6],[6]),([7,8,6],[6,7,8]),([9,6],[6,9]),([6],[6]),([6],[6]),([11,12,6],[6,11,12]),([13,6],[6,13]),([10,14,6,6],[6,10,14]),([6,15],[6,15])])
def bT.B11 : List Nat:=[0,0,0,6,14,31,63,127,127,511,1023,127,127,6271,14463,32767,65535]
theorem bT.adq : fC .any (opsOf Try.f49 11) = bT.T11:=by kernel_rfl
theorem bT.abI : lN bT.T11.2 bT.B11 = true:=by kernel_rfl
theorem bT.calls (k : Nat) (a0 : Int) (r : List (List Int)) (w : World) (h : bT.f k a0 = some r) :
  Calls Try.prog 49 #[.int .i64 a0] w fun e w'=>∃ v0_ : Value,e = .returned (v0_)∧Kd.S (Kd.slice 3 (Kd.int .i64)) 24 w' w.heap.size (fun _=>True) v0_ r∧Below w.heap.size w w':=by
 have anu:=Try.underlying86;have HB:=HRf w;have H : ((iq.f k a0).bind fun aH=>(bT.l0 k (([] : List (List Int))) aH aH (aH.length : Int) 0)) = some r:=h;clear h;obtain ⟨anx,adr⟩ : ∃ y_ : List (List Int),y_ = (([] : List (List Int))):=⟨_,rfl⟩;replace H : ((iq.f k a0).bind fun aH=>(bT.l0 k anx aH aH (aH.length : Int) 0)) = some r:=HY H adr;have alI:=AM adr;clear adr;replace H:=EA H;obtain ⟨aH,A2,H⟩:=H;have H':=AM H;clear H;go_enter Try.func49,Try.ntmps49;go_wp2_with (first|((with_reducible refine dG (N:=9) rfl ?_);refine Kd.alJ (Kd.slice 3 (Kd.int .i64)) _ 24 ?hg (N:=9) ?hd (xs:=([] : List (List Int))) (inner:=[]) (ok:=fun _=>True) (okp:=fun _=>True) ?hr ?hp (fun _ hk=>hk) trivial (Below.refl _ _) (Nat.le_refl _) (by simp) ?_;(case hd=>rfl);(case hg=>rfl);(case hr=>exact GS);(case hp=>exact (aT.none _ _));intro aGU w3 ho4 hb hg_ eY;clear hg_ eY;(first|rw [← alI.out] at ho4|(simp only [Int.reduceToNat] at ho4;rw [← alI.out] at ho4));have ads:=AM (Kd.jG ho4 (BZ BB));replace HB:=HS hb;clear hb ho4)|(refine GC 75 ?_;refine GM (some 11) Try.func75 (iq.calls k a0 aH _ A2.out) ?_;rintro e w5 ⟨aGV,rfl,ho0,hb⟩;refine ⟨_,rfl,?_⟩;replace ads:=SB ads hb;have adt:=AM (Kd.bD ho0 (BZ BB));replace HB:=HS hb;try clear hb ho0;obtain ⟨Ao6,co6,eo6⟩:=Kd.bG adt.out;subst eo6));go_loopg [3,14] k (fun kq v3 v14 w'=>∃ (dO : List (List Int)) (bg : Int),v14 = .int .i64 bg∧ak (bT.l0 kq dO aH aH (aH.length : Int) bg = some r)∧ak (kq ≤ k)∧ak (Kd.S (Kd.slice 3 (Kd.int .i64)) 24 w' w.heap.size (fun _=>True) v3 dO)∧ak (Kd.R k86 86 w' w.heap.size (fun _=>True) (.slice Ao6 aH.length co6) aH)∧ak (Kd.R k86 86 w' w.heap.size (fun _=>True) (.slice Ao6 aH.length co6) aH)∧ak (Below w.heap.size w w'))
 case atStart=>exact ⟨(anx),(0),RF,H',⟨Nat.le_refl _⟩,⟨KS ads⟩,⟨KR adt⟩,⟨KR adt⟩,⟨BB⟩⟩
 case round =>
  clear H';try clear p2
  try clear c4
  try clear p6
  obtain ⟨dO,bg,rfl,HA,HK1,bB,gy,fI,HB⟩:=hrel;cases gk with
  | zero=>exact absurd HA.out (by simp [bT.l0])
  | succ k1 =>
   have H:=HA.out;clear HA;simp only [bT.l0] at H;by_cases c7 : bg < (aH.length : Int)
   ·rw [if_pos c7] at H;have kS:=DT c7;clear c7;replace H:=IC H;obtain ⟨c8,H⟩:=H;have nU:=DT c8;clear c8;replace H:=IC H;obtain ⟨c9,H⟩:=H;have wD:=DT c9;clear c9;have H':=AM H;clear H;have Pf : 0 ≤ (bg : Int):=OD AS;have Pg : bg < (aH.length : Int):=OD AS;obtain ⟨fV,e314,aaO,aaP,aaQ⟩:=uW (Kd.aA fI.out).2.2 bg Pf Pg;cases e314;replace Pf:=ET Pf;replace Pg:=ET Pg;go_wp2_with (first|((with_reducible refine dG (N:=6) rfl ?_);refine gq ?hg (N:=6) ?hd (cs:=#[.int .i64 0,.int .i64 0,.int .i64 0]) (t:=86) ?hr ?_;(case hd=>rfl);(case hg=>rfl);(case hr=>exact GS);intro iI hg w10 aJ hb;replace bB:=SB bB hb;replace gy:=AM (Kd.pX (Kd.ahG (KR gy) iI (Nat.le_of_eq hg.symm)) hb);replace fI:=AM (Kd.pX (Kd.ahG (KR fI) iI (Nat.le_of_eq hg.symm)) hb);have dD:=AM aJ;have aEb:=AM ((by rw [hg];exact (BZ BB) : w.heap.size ≤ iI));have rZ:=AM ((by rw [hg];exact (BZ BB) : w.heap.size ≤ iI));replace HB:=HS hb;clear hb aJ hg;have Nc : w10.cell? ⟨iI,0,none⟩ = some (.int .i64 0):=(BC dD.out 0).trans rfl;have Nf : w10.cell? ⟨iI,1,none⟩ = some (.int .i64 0):=(BC dD.out 1).trans rfl;have Ng : w10.cell? ⟨iI,2,none⟩ = some (.int .i64 0):=(BC dD.out 2).trans rfl;have Nh:=BF dD.out 0;have Nl:=BF dD.out 1;have Nn:=BF dD.out 2));go_loopg [3,7] k1 (fun kq v3 v7 w'=>∃ (nT : List (List Int)) (bI : Int),v7 = .int .i64 bI∧ak (bT.l1 kq nT aH bg bI aH (aH.length : Int) bg ((aI aH bg).f0) ((aI aH bg).f1) ((aI aH bg).f2) = some r)∧ak (kq ≤ k1)∧ak (Kd.S (Kd.slice 3 (Kd.int .i64)) 24 w' w.heap.size (fun _=>True) v3 nT)∧ak (Kd.R k86 86 w' w.heap.size (fun k_=>k_≠iI) (.slice (some fV) aH.length co6) aH)∧ak (Kd.R k86 86 w' w.heap.size (fun k_=>k_≠iI) (.slice (some fV) aH.length co6) aH)∧ak (w'.heap[iI]? = some (.cells #[.int .i64 ((aI aH bg).f0),.int .i64 ((aI aH bg).f1),.int .i64 ((aI aH bg).f2)] 86 (0,0)))∧ak (Below w.heap.size w w'))
    case atStart=>exact ⟨(dO),(wrap64 (bg + 1)),RF,H',⟨Nat.le_refl _⟩,⟨by (with_reducible repeat (first|apply Kd.fK|apply Kd.fM|apply Kd.dB));exact Kd.dx (Kd.eG (p:=⟨iI,2,none⟩) (Kd.eG (p:=⟨iI,1,none⟩) (Kd.eG (p:=⟨iI,0,none⟩) (Kd.tX bB.out dD.out (by decide)) (fun _ hk=>hk.2) (.int .i64 ((aI aH bg).f0))) (fun _ hk=>hk.2) (.int .i64 ((aI aH bg).f1))) (fun _ hk=>hk.2) (.int .i64 ((aI aH bg).f2))) (fun _ hk=>trivial)⟩,⟨by (with_reducible repeat (first|apply Kd.dh|apply Kd.dn|apply Kd.bF));exact Kd.aM (Kd.dP (p:=⟨iI,2,none⟩) (Kd.dP (p:=⟨iI,1,none⟩) (Kd.dP (p:=⟨iI,0,none⟩) (Kd.aM gy.out (fun k_ hk=>(⟨hk,hk.2⟩ : _∧k_≠iI))) (fun _ hk=>hk.2) (.int .i64 ((aI aH bg).f0))) (fun _ hk=>hk.2) (.int .i64 ((aI aH bg).f1))) (fun _ hk=>hk.2) (.int .i64 ((aI aH bg).f2))) (fun _ hk=>hk.1.2)⟩,⟨by (with_reducible repeat (first|apply Kd.dh|apply Kd.dn|apply Kd.bF));exact Kd.aM (Kd.dP (p:=⟨iI,2,none⟩) (Kd.dP (p:=⟨iI,1,none⟩) (Kd.dP (p:=⟨iI,0,none⟩) (Kd.aM fI.out (fun k_ hk=>(⟨hk,hk.2⟩ : _∧k_≠iI))) (fun _ hk=>hk.2) (.int .i64 ((aI aH bg).f0))) (fun _ hk=>hk.2) (.int .i64 ((aI aH bg).f1))) (fun _ hk=>hk.2) (.int .i64 ((aI aH bg).f2))) (fun _ hk=>hk.1.2)⟩,⟨by (with_reducible repeat (first|refine bZ ?_ _|refine bL ?_|refine bV ?_ _));refine fE (cs:=#[.int .i64 ((aI aH bg).f0),.int .i64 ((aI aH bg).f1),.int .i64 0]) ?_ 2 _ rfl;(with_reducible repeat (first|refine bZ ?_ _|refine bL ?_|refine bV ?_ _));refine fE (cs:=#[.int .i64 ((aI aH bg).f0),.int .i64 0,.int .i64 0]) ?_ 1 _ rfl;(with_reducible repeat (first|refine bZ ?_ _|refine bL ?_|refine bV ?_ _));refine fE (cs:=#[.int .i64 0,.int .i64 0,.int .i64 0]) ?_ 0 _ rfl;(with_reducible repeat (first|refine bZ ?_ _|refine bL ?_|refine bV ?_ _));exact dD.out⟩,⟨AGE rZ⟩⟩
    case round =>
     clear H';try clear p2
     try clear p3
     try clear q3
     try clear hx3
     try clear c4
     try clear p6
     try clear c7
     try clear kS
     try clear c8
     try clear nU
     try clear c9
     try clear wD
     try clear Nc
     try clear Nf
     try clear Ng
     try clear Nh
     try clear Nl
     try clear Nn
     try clear aaO
     try clear aaP
     try clear aaQ
     try clear p2
     try clear Pf
     try clear p6
     try clear Pg
     obtain ⟨nT,bI,rfl,HA,HK2,bB,gy,fI,dD,HB⟩:=hrel;cases gk with
     | zero=>exact absurd HA.out (by simp [bT.l1])
     | succ k2 =>
      have H:=HA.out;clear HA;simp only [bT.l1] at H;by_cases c12 : bI < (aH.length : Int)
      ·rw [if_pos c12] at H;have rQ:=DT c12;clear c12;have H':=AM H;clear H;go_wp2;go_loopg [3,8] k2 (fun kq v3 v8 w'=>∃ (lT : List (List Int)) (bS : Int),v8 = .int .i64 bS∧ak (bT.l2 kq lT aH bg bI bS aH (aH.length : Int) bg ((aI aH bg).f0) ((aI aH bg).f1) ((aI aH bg).f2) = some r)∧ak (kq ≤ k2)∧ak (Kd.S (Kd.slice 3 (Kd.int .i64)) 24 w' w.heap.size (fun _=>True) v3 lT)∧ak (Kd.R k86 86 w' w.heap.size (fun k_=>k_≠iI) (.slice (some fV) aH.length co6) aH)∧ak (Kd.R k86 86 w' w.heap.size (fun k_=>k_≠iI) (.slice (some fV) aH.length co6) aH)∧ak (w'.heap[iI]? = some (.cells #[.int .i64 ((aI aH bg).f0),.int .i64 ((aI aH bg).f1),.int .i64 ((aI aH bg).f2)] 86 (0,0)))∧ak (Below w.heap.size w w'))
       case atStart=>exact ⟨(nT),(wrap64 (bI + 1)),RF,H',⟨Nat.le_refl _⟩,⟨KS bB⟩,⟨KR gy⟩,⟨KR fI⟩,⟨by (with_reducible repeat (first|refine bZ ?_ _|refine bL ?_|refine bV ?_ _));exact dD.out⟩,⟨AGE rZ⟩⟩
       case round =>
        clear H';try clear c1
        try clear p2
        try clear p3
        try clear q3
        try clear hx3
        try clear c4
        try clear p6
        try clear c7
        try clear kS
        try clear c8
        try clear nU
        try clear c9
        try clear wD
        try clear c12
        try clear rQ
        try clear Nc
        try clear Nf
        try clear Ng
        try clear Nh
        try clear Nl
        try clear Nn
        try clear aaO
        try clear aaP
        try clear aaQ
        try clear p2
        try clear p3
        try clear Pf
        try clear p6
        try clear q3
        try clear Pg
        obtain ⟨lT,bS,rfl,HA,HK3,bB,gy,fI,dD,HB⟩:=hrel;cases gk with
        | zero=>exact absurd HA.out (by simp [bT.l2])
        | succ k3 =>
         have H:=HA.out;clear HA;simp only [bT.l2] at H;have agk:=AM H;clear H;go_upto_region 9 with (fail)
         go_cut [40] (fun v40 wc=>∃ (kq : Nat) (Wn : Bool),v40 = .bool Wn∧ak (bT.j3 kq lT aH bg bI bS aH (aH.length : Int) bg Wn ((aI aH bg).f0) ((aI aH bg).f1) ((aI aH bg).f2) = some r)∧ak (kq ≤ k3)∧ak (Kd.S (Kd.slice 3 (Kd.int .i64)) 24 wc w.heap.size (fun _=>True) u3 lT)∧ak (Kd.R k86 86 wc w.heap.size (fun k_=>k_≠iI) (.slice (some fV) aH.length co6) aH)∧ak (Kd.R k86 86 wc w.heap.size (fun k_=>k_≠iI) (.slice (some fV) aH.length co6) aH)∧ak (wc.heap[iI]? = some (.cells #[.int .i64 ((aI aH bg).f0),.int .i64 ((aI aH bg).f1),.int .i64 ((aI aH bg).f2)] 86 (0,0)))∧ak (Below w.heap.size w wc))
         case first =>
          have H:=agk.out;clear agk;by_cases c14 : bS < (aH.length : Int)
          ·rw [if_pos c14] at H;have uj:=DT c14;clear c14
           (first|rw [uj]|(simp only [dJ,eX];rw [uj])|skip);replace H:=IC H;obtain ⟨c15,H⟩:=H;have yJ:=DT c15;clear c15;replace H:=IC H;obtain ⟨c16,H⟩:=H;have Al:=DT c16;clear c16;replace H:=EA H;obtain ⟨YV,A17,H⟩:=H;have H':=AM H;clear H;try go_wp2
           replace bB:=AM (Kd.dB bB.out);replace gy:=AM (Kd.bF gy.out);replace fI:=AM (Kd.bF fI.out);replace dD:=AM (bL dD.out);replace HB:=AM (fA HB.out);have YW : 0 ≤ (bI : Int):=OD AS;have YX : bI < (aH.length : Int):=OD AS;obtain ⟨av3,e316,aaR,aaS,aaT⟩:=uW (Kd.aA gy.out).2.2 bI YW YX;obtain rfl : fV = av3:=(by injection e316);replace YW:=ET YW;replace YX:=ET YX;refine PSt (n:=12) (S:=fun w'=>w'.cell? ⟨iI,0,none⟩ = some (.int .i64 ((aI aH bg).f0))∧w'.cell? ⟨iI,1,none⟩ = some (.int .i64 ((aI aH bg).f1))∧w'.cell? ⟨iI,2,none⟩ = some (.int .i64 ((aI aH bg).f2))∧w'.cell? (fV.add ((bI).toNat * 3)) = some (.int .i64 ((aI aH bI).f0))∧w'.cell? ⟨(fV.add ((bI).toNat * 3)).block,(fV.add ((bI).toNat * 3)).off + 1,none⟩ = some (.int .i64 ((aI aH bI).f1))∧w'.cell? ⟨(fV.add ((bI).toNat * 3)).block,(fV.add ((bI).toNat * 3)).off + 2,none⟩ = some (.int .i64 ((aI aH bI).f2))) (ds:=[]) ⟨(BC dD.out 0).trans rfl,(BC dD.out 1).trans rfl,(BC dD.out 2).trans rfl,aaR,aaS,aaT⟩ (fun hHeld=>?_);refine lK bT.KY bT.JB (fun HT_ HW_=>?_);generalize wr.drew = w18 at bB gy fI dD HB aaR aaS aaT hHeld ⊢;refine PA 0 29 HT_ ?_;refine PA 1 30 HT_ ?_;refine PA 2 31 HT_ ?_;refine PA 3 32 HT_ ?_;refine PA 4 33 HT_ ?_;refine PA 6 35 HT_ ?_;refine PA 7 36 HT_ ?_;refine PA 8 37 HT_ ?_;refine PB 5 34 HT_ HW_ hHeld ?_;refine PB 9 38 HT_ HW_ hHeld ?_;refine PC 10 39 HT_ (fun K hK=>?_);refine iL Try.func79 (by kernel_rfl) rfl #[.agg #[.int .i64 ((aI aH bg).f0),.int .i64 ((aI aH bg).f1),.int .i64 ((aI aH bg).f2)],.agg #[.int .i64 ((aI aH bI).f0),.int .i64 ((aI aH bI).f1),.int .i64 ((aI aH bI).f2)]] (by rfl) rfl rfl TA ?_;with_reducible refine (gL.calls k3 ((aI aH bg).f0) ((aI aH bg).f1) ((aI aH bg).f2) ((aI aH bI).f0) ((aI aH bI).f1) ((aI aH bI).f2) YV _ A17.out).mono ?_;rintro e w19 ⟨rfl,hb⟩;have BM:=LD hb hHeld.2.2.2.1;have r9:=LD hb hHeld.2.2.2.2.1;have sj:=LD hb hHeld.2.2.2.2.2;refine ⟨_,rfl,?_⟩;replace bB:=SB bB hb;replace gy:=RB gy hb;replace fI:=RB fI hb;replace dD:=AM (eU (g:=iI) (o:=.cells #[.int .i64 ((aI aH bg).f0),.int .i64 ((aI aH bg).f1),.int .i64 ((aI aH bg).f2)] 86 (0,0)) (BW dD) hb);replace HB:=HG rZ hb;try clear hb
           refine hK.out _ _ ⟨(BC dD.out 0).trans rfl,(BC dD.out 1).trans rfl,(BC dD.out 2).trans rfl,BM,r9,sj⟩ (fun hHeld=>?_);clear hK K;refine iy (a':=?_) ?_ ?_;rotate_left
           ·show Act.put _ (some 39) _ = _;simp only [Act.put,List.setIfInBounds_toArray,List.set_cons_zero,List.set_cons_succ,dJ,eX];rfl
           refine PA 11 40 HT_ ?_;refine l8 (l5 HT_.out (by kernel_rfl)) ?_;try go_wp2
           go_meet
           case rel=>exact ⟨_,(YV),RF,H',⟨by have:=HK1.out;have:=HK2.out;have:=HK3.out;first|omega|exact Nat.le_refl _⟩,⟨KS bB⟩,⟨KR gy⟩,⟨KR fI⟩,⟨by (with_reducible repeat (first|refine bZ ?_ _|refine bL ?_|refine bV ?_ _));exact dD.out⟩,⟨AGE rZ⟩⟩
          ·rw [if_neg c14] at H;have uj:=DF c14;clear c14
           (first|rw [uj]|(simp only [dJ,eX];rw [uj])|skip);have H':=AM H;clear H;try go_wp2
           replace bB:=AM (Kd.dB bB.out);replace gy:=AM (Kd.bF gy.out);replace fI:=AM (Kd.bF fI.out);replace dD:=AM (bL dD.out);replace HB:=AM (fA HB.out);refine PSt (n:=12) (S:=fun w'=>True) (ds:=[]) trivial (fun hHeld=>?_);refine lK bT.KY bT.JB (fun HT_ HW_=>?_);generalize wr.drew = w20 at bB gy fI dD HB hHeld ⊢;refine PA 0 29 HT_ ?_;refine PA 1 30 HT_ ?_;refine PA 2 31 HT_ ?_;refine PA 3 32 HT_ ?_;refine PA 4 33 HT_ ?_;refine uY (i:=5) (N:=some 34) (v:=undef) (a':=?_) #[true,true,true,true,true,true,false,false,false,false,false,false] rfl rfl (uV HT_.out (by kernel_rfl)) (fun _ _ _ h=>h) (Or.inr ⟨by rfl,rfl⟩) ?_ ?_;rotate_left
           ·exact PU
           refine uY (i:=6) (N:=some 35) (v:=undef) (a':=?_) #[true,true,true,true,true,true,true,false,false,false,false,false] rfl rfl (uV HT_.out (by kernel_rfl)) (fun _ _ _ h=>h) (Or.inr ⟨by rfl,rfl⟩) ?_ ?_;rotate_left
           ·exact PU
           refine uY (i:=7) (N:=some 36) (v:=undef) (a':=?_) #[true,true,true,true,true,true,true,true,false,false,false,false] rfl rfl (uV HT_.out (by kernel_rfl)) (fun _ _ _ h=>h) (Or.inr ⟨by rfl,rfl⟩) ?_ ?_;rotate_left
           ·exact PU
           refine uY (i:=8) (N:=some 37) (v:=undef) (a':=?_) #[true,true,true,true,true,true,true,true,true,false,false,false] rfl rfl (uV HT_.out (by kernel_rfl)) (fun _ _ _ h=>h) (Or.inr ⟨by rfl,rfl⟩) ?_ ?_;rotate_left
           ·exact PU
           refine uY (i:=9) (N:=some 38) (v:=undef) (a':=?_) #[true,true,true,true,true,true,true,true,true,true,false,false] rfl rfl (uV HT_.out (by kernel_rfl)) (fun _ _ _ h=>h) (Or.inr ⟨by rfl,rfl⟩) ?_ ?_;rotate_left
           ·exact PU
           refine uY (i:=10) (N:=some 39) (v:=undef) (a':=?_) #[true,true,true,true,true,true,true,true,true,true,true,false] rfl rfl (uV HT_.out (by kernel_rfl)) (fun _ _ _ h=>h) (Or.inr ⟨by rfl,rfl⟩) ?_ ?_;rotate_left
           ·exact PU
           refine PA 11 40 HT_ ?_;refine l8 (l5 HT_.out (by kernel_rfl)) ?_;try go_wp2
           go_meet
           case rel=>exact ⟨_,(false),RF,H',⟨by have:=HK1.out;have:=HK2.out;have:=HK3.out;first|omega|exact Nat.le_refl _⟩,⟨KS bB⟩,⟨KR gy⟩,⟨KR fI⟩,⟨by (with_reducible repeat (first|refine bZ ?_ _|refine bL ?_|refine bV ?_ _));exact dD.out⟩,⟨AGE rZ⟩⟩
         case rest =>
          clear agk;try clear c1
          try clear p2
          try clear p3
          try clear q3
          try clear hx3
          try clear c4
          try clear p6
          try clear c7
          try clear kS
          try clear c8
          try clear nU
          try clear c9
          try clear wD
          try clear c12
          try clear rQ
          try clear c14
          try clear uj
          try clear c15
          try clear yJ
          try clear c16
          try clear Al
          try clear Nc
          try clear Nf
          try clear Ng
          try clear Nh
          try clear Nl
          try clear Nn
          try clear aaO
          try clear aaP
          try clear aaQ
          try clear aaR
          try clear aaS
          try clear aaT
          try clear p2
          try clear p3
          try clear Pf
          try clear YW
          try clear p6
          try clear q3
          try clear Pg
          try clear YX
          obtain ⟨kq,Wn,rfl,HA,Hw,bB,gy,fI,dD,HB⟩:=hcut;cases kq with
          | zero=>exact absurd HA.out (by simp [bT.j3])
          | succ BN =>
           have H:=HA.out;clear HA;simp only [bT.j3] at H;by_cases c21 : Wn = true
           ·subst c21;replace H:=IP H;replace H:=IC H;obtain ⟨c22,H⟩:=H;have WT:=DT c22;clear c22;replace H:=IC H;obtain ⟨c23,H⟩:=H;have ak7:=DT c23;clear c23;replace H:=EA H;obtain ⟨agi,A24,H⟩:=H;by_cases c25 : agi = true
            ·subst c25;replace H:=IP H;replace H:=IC H;obtain ⟨c26,H⟩:=H;have Oh:=DT c26;clear c26;replace H:=IC H;obtain ⟨c27,H⟩:=H;have N7:=DT c27;clear c27;replace H:=EA H;obtain ⟨agj,A28,H⟩:=H;by_cases c29 : agj = true
             ·subst c29;replace H:=IP H;obtain ⟨UW,adu⟩ : ∃ y_ : List Int,y_ = (([bg,bI,bS] : List Int)):=⟨_,rfl⟩;replace H : (if lT.length < 5864062014805 then (bT.l2 BN (lT ++ [UW]) aH bg bI (wrap64 (bS + 1)) aH (aH.length : Int) bg ((aI aH bg).f0) ((aI aH bg).f1) ((aI aH bg).f2)) else (none)) = some r:=HY H adu;have alK:=AM adu;clear adu;replace H:=IC H;obtain ⟨c30,H⟩:=H;have av4:=AM c30;clear c30;obtain ⟨anz,adv⟩ : ∃ y_ : List (List Int),y_ = (lT ++ [UW]):=⟨_,rfl⟩;replace H : (bT.l2 BN anz aH bg bI (wrap64 (bS + 1)) aH (aH.length : Int) bg ((aI aH bg).f0) ((aI aH bg).f1) ((aI aH bg).f2)) = some r:=HY H adv;have av5:=AM adv;clear adv;have H':=AM H;clear H;try go_wp2
              replace bB:=AM (Kd.dB bB.out);replace gy:=AM (Kd.bF gy.out);replace fI:=AM (Kd.bF fI.out);replace dD:=AM (bL dD.out);replace HB:=AM (fA HB.out);have BO : 0 ≤ (bS : Int):=OD AS;have BP : bS < (aH.length : Int):=OD AS;obtain ⟨SN,e318,FJ,FL,FM⟩:=uW (Kd.aA gy.out).2.2 bS BO BP;obtain rfl : fV = SN:=(by injection e318);replace BO:=ET BO;replace BP:=ET BP;have Mc : 0 ≤ (bI : Int):=OD AS;have Md : bI < (aH.length : Int):=OD AS;obtain ⟨adw,agl,QW,QX,QY⟩:=uW (Kd.aA gy.out).2.2 bI Mc Md;obtain rfl : fV = adw:=(by injection agl);replace Mc:=ET Mc;replace Md:=ET Md;have Me : 0 ≤ (bS : Int):=OD AS;have Mf : bS < (aH.length : Int):=OD AS;obtain ⟨adx,e321,QZ,Q0,Q5⟩:=uW (Kd.aA gy.out).2.2 bS Me Mf;obtain rfl : fV = adx:=(by injection e321);replace Me:=ET Me;replace Mf:=ET Mf;refine PSt (n:=17) (S:=fun w'=>w'.cell? ⟨iI,0,none⟩ = some (.int .i64 ((aI aH bg).f0))∧w'.cell? ⟨iI,1,none⟩ = some (.int .i64 ((aI aH bg).f1))∧w'.cell? ⟨iI,2,none⟩ = some (.int .i64 ((aI aH bg).f2))∧w'.cell? (fV.add ((bS).toNat * 3)) = some (.int .i64 ((aI aH bS).f0))∧w'.cell? ⟨(fV.add ((bS).toNat * 3)).block,(fV.add ((bS).toNat * 3)).off + 1,none⟩ = some (.int .i64 ((aI aH bS).f1))∧w'.cell? ⟨(fV.add ((bS).toNat * 3)).block,(fV.add ((bS).toNat * 3)).off + 2,none⟩ = some (.int .i64 ((aI aH bS).f2))∧w'.cell? (fV.add ((bI).toNat * 3)) = some (.int .i64 ((aI aH bI).f0))∧w'.cell? ⟨(fV.add ((bI).toNat * 3)).block,(fV.add ((bI).toNat * 3)).off + 1,none⟩ = some (.int .i64 ((aI aH bI).f1))∧w'.cell? ⟨(fV.add ((bI).toNat * 3)).block,(fV.add ((bI).toNat * 3)).off + 2,none⟩ = some (.int .i64 ((aI aH bI).f2))∧w'.cell? (fV.add ((bS).toNat * 3)) = some (.int .i64 ((aI aH bS).f0))∧w'.cell? ⟨(fV.add ((bS).toNat * 3)).block,(fV.add ((bS).toNat * 3)).off + 1,none⟩ = some (.int .i64 ((aI aH bS).f1))∧w'.cell? ⟨(fV.add ((bS).toNat * 3)).block,(fV.add ((bS).toNat * 3)).off + 2,none⟩ = some (.int .i64 ((aI aH bS).f2))) (ds:=[]) ⟨(BC dD.out 0).trans rfl,(BC dD.out 1).trans rfl,(BC dD.out 2).trans rfl,FJ,FL,FM,QW,QX,QY,QZ,Q0,Q5⟩ (fun hHeld=>?_);refine lK bT.adq bT.abI (fun HT_ HW_=>?_);generalize wc.drew = w31 at bB gy fI dD HB FJ FL FM QW QX QY QZ Q0 Q5 hHeld ⊢;refine PA 1 44 HT_ ?_;refine PA 2 45 HT_ ?_;refine PA 3 46 HT_ ?_;refine PB 0 43 HT_ HW_ hHeld ?_;refine PB 4 47 HT_ HW_ hHeld ?_;refine PC 5 48 HT_ (fun K hK=>?_);refine iL Try.func79 (by kernel_rfl) rfl #[.agg #[.int .i64 ((aI aH bg).f0),.int .i64 ((aI aH bg).f1),.int .i64 ((aI aH bg).f2)],.agg #[.int .i64 ((aI aH bS).f0),.int .i64 ((aI aH bS).f1),.int .i64 ((aI aH bS).f2)]] (by rfl) rfl rfl TA ?_;with_reducible refine (gL.calls BN ((aI aH bg).f0) ((aI aH bg).f1) ((aI aH bg).f2) ((aI aH bS).f0) ((aI aH bS).f1) ((aI aH bS).f2) true _ A24.out).mono ?_;rintro e w32 ⟨rfl,hb⟩;have BM:=LD hb hHeld.2.2.2.1;have r9:=LD hb hHeld.2.2.2.2.1;have sj:=LD hb hHeld.2.2.2.2.2.1;have Mg:=LD hb hHeld.2.2.2.2.2.2.1;have Mh:=LD hb hHeld.2.2.2.2.2.2.2.1;have Mi:=LD hb hHeld.2.2.2.2.2.2.2.2.1;have Mj:=LD hb hHeld.2.2.2.2.2.2.2.2.2.1;have JR:=LD hb hHeld.2.2.2.2.2.2.2.2.2.2.1;have JU:=LD hb hHeld.2.2.2.2.2.2.2.2.2.2.2;refine ⟨_,rfl,?_⟩;replace bB:=SB bB hb;replace gy:=RB gy hb;replace fI:=RB fI hb;replace dD:=AM (eU (g:=iI) (o:=.cells #[.int .i64 ((aI aH bg).f0),.int .i64 ((aI aH bg).f1),.int .i64 ((aI aH bg).f2)] 86 (0,0)) (BW dD) hb);replace HB:=HG rZ hb;try clear hb
              refine hK.out _ _ ⟨(BC dD.out 0).trans rfl,(BC dD.out 1).trans rfl,(BC dD.out 2).trans rfl,BM,r9,sj,Mg,Mh,Mi,Mj,JR,JU⟩ (fun hHeld=>?_);clear hK K;refine iy (a':=?_) ?_ ?_;rotate_left
              ·show Act.put _ (some 48) _ = _;simp only [Act.put,List.setIfInBounds_toArray,List.set_cons_zero,List.set_cons_succ,dJ,eX];rfl
              refine PA 6 49 HT_ ?_;refine PA 7 50 HT_ ?_;refine PA 8 51 HT_ ?_;refine PA 9 52 HT_ ?_;refine PA 11 54 HT_ ?_;refine PA 12 55 HT_ ?_;refine PA 13 56 HT_ ?_;refine PB 10 53 HT_ HW_ hHeld ?_;refine PB 14 57 HT_ HW_ hHeld ?_;refine PC 15 58 HT_ (fun K hK=>?_);refine iL Try.func79 (by kernel_rfl) rfl #[.agg #[.int .i64 ((aI aH bI).f0),.int .i64 ((aI aH bI).f1),.int .i64 ((aI aH bI).f2)],.agg #[.int .i64 ((aI aH bS).f0),.int .i64 ((aI aH bS).f1),.int .i64 ((aI aH bS).f2)]] (by rfl) rfl rfl TA ?_;with_reducible refine (gL.calls BN ((aI aH bI).f0) ((aI aH bI).f1) ((aI aH bI).f2) ((aI aH bS).f0) ((aI aH bS).f1) ((aI aH bS).f2) true _ A28.out).mono ?_;rintro e w33 ⟨rfl,hb⟩;have BM:=LD hb hHeld.2.2.2.1;have r9:=LD hb hHeld.2.2.2.2.1;have sj:=LD hb hHeld.2.2.2.2.2.1;have Mg:=LD hb hHeld.2.2.2.2.2.2.1;have Mh:=LD hb hHeld.2.2.2.2.2.2.2.1;have Mi:=LD hb hHeld.2.2.2.2.2.2.2.2.1;have Mj:=LD hb hHeld.2.2.2.2.2.2.2.2.2.1;have JR:=LD hb hHeld.2.2.2.2.2.2.2.2.2.2.1;have JU:=LD hb hHeld.2.2.2.2.2.2.2.2.2.2.2;refine ⟨_,rfl,?_⟩;replace bB:=SB bB hb;replace gy:=RB gy hb;replace fI:=RB fI hb;replace dD:=AM (eU (g:=iI) (o:=.cells #[.int .i64 ((aI aH bg).f0),.int .i64 ((aI aH bg).f1),.int .i64 ((aI aH bg).f2)] 86 (0,0)) (BW dD) hb);replace HB:=HG rZ hb;try clear hb
              refine hK.out _ _ ⟨(BC dD.out 0).trans rfl,(BC dD.out 1).trans rfl,(BC dD.out 2).trans rfl,BM,r9,sj,Mg,Mh,Mi,Mj,JR,JU⟩ (fun hHeld=>?_);clear hK K;refine iy (a':=?_) ?_ ?_;rotate_left
              ·show Act.put _ (some 58) _ = _;simp only [Act.put,List.setIfInBounds_toArray,List.set_cons_zero,List.set_cons_succ,dJ,eX];rfl
              refine PA 16 59 HT_ ?_;refine l8 (l5 HT_.out (by kernel_rfl)) ?_;try go_wp2_with (first|((with_reducible refine dG (N:=64) rfl ?_);refine Kd.pF (Kd.int .i64) _ 3 ?hg (N:=64) ?hd (xs:=([bg,bI,bS] : List Int)) (inner:=[.int .i64 bg,.int .i64 bI,.int .i64 bS]) (ok:=fun _=>True) (okp:=fun _=>True) ?hr ?hp (fun _ hk=>hk) trivial (Below.refl _ _) (Nat.le_refl _) (by simp) ?_;(case hd=>rfl);(case hg=>rfl);(case hr=>exact GS);(case hp=>exact (aT.one (show Kd.M (Kd.int .i64) _ _ _ bg [.int .i64 bg] from rfl) (aT.one (show Kd.M (Kd.int .i64) _ _ _ bI [.int .i64 bI] from rfl) (aT.one (show Kd.M (Kd.int .i64) _ _ _ bS [.int .i64 bS] from rfl) (aT.none _ _)))));intro aGW w34 Ph hb hg_ eY;clear hg_ eY;(first|rw [← alK.out] at Ph|(simp only [Int.reduceToNat] at Ph;rw [← alK.out] at Ph));replace bB:=SO bB Ph hb;replace gy:=RB gy hb;replace fI:=RB fI hb;have Xn:=AM (Kd.bD Ph (BZ (AGE rZ)));replace dD:=AM (eU (g:=iI) (o:=.cells #[.int .i64 ((aI aH bg).f0),.int .i64 ((aI aH bg).f1),.int .i64 ((aI aH bg).f2)] 86 (0,0)) (BW dD) hb);replace HB:=HG rZ hb;clear hb Ph;obtain ⟨anA,anB,azm⟩:=Kd.bG Xn.out;subst azm)|((with_reducible refine pW (b:=.append) (xs:=#[.tmp 60,.tmp 65]) rfl ?_);at_builtin;refine Kd.Vu (Kd.slice 3 (Kd.int .i64)) (w0:=w) w.heap.size rfl (.tmp 60) (.tmp 65) 41 24 (.slice none 0 0) 24 rfl Try.underlying41 ND rfl (by decide) (by omega) u3 lT UW [.slice anA UW.length anB] (fun _=>True) (fun k_=>some k_ = (.slice anA UW.length anB : Value).ownBlock) rfl rfl ?aP (fun k_ hk_=>((Kd.aM (ok':=fun k_=>((fun _=>True)) k_∧some k_≠(u3 : Value).ownBlock) (Kd.qY (Xn.out) (Kd.sJ bB.out) (by decide)) (fun k_ hk=>⟨trivial,hk.2⟩))).1 k_ hk_.symm) ?aF ?aO ?aB ?aS ?aL ?_;(case aP=>exact Kd.RX (Kd.aM (Kd.Du rfl (Kd.aM (ok':=fun k_=>((fun _=>True)) k_∧some k_≠(u3 : Value).ownBlock) (Kd.qY (Xn.out) (Kd.sJ bB.out) (by decide)) (fun k_ hk=>⟨trivial,hk.2⟩))) (fun _ h_=>h_)));(case aB=>exact (AGE rZ));(case aF=>exact (fun _ _=>trivial));(case aO=>exact (by (with_reducible repeat (first|apply Kd.fK|apply Kd.fM|apply Kd.dB));exact Kd.dx bB.out (fun k_ hk=>⟨trivial,fun e_=>hk.2 e_⟩)));(case aS=>exact (BZ (AGE rZ)));(case aL=>have:=av4.out;omega);intro aGX w36 ho hb hg hat;rw [← av5.out] at ho;replace gy:=AM (Kd.zQ (KR gy) (Kd.sJ (KS bB)) (by decide) hg);replace fI:=AM (Kd.zQ (KR fI) (Kd.sJ (KS bB)) (by decide) hg);replace dD:=AM (H9 (g:=iI) (o:=.cells #[.int .i64 ((aI aH bg).f0),.int .i64 ((aI aH bg).f1),.int .i64 ((aI aH bg).f2)] 86 (0,0)) (BW dD) hg (Kd.afg bB.out dD.out (by decide)));replace HB:=AM hb;have av6:=AM ho;clear bB Xn;clear ho hb hg hat))
              go_roundg BN
              case measure=>have:=HK1.out;have:=HK2.out;have:=HK3.out;have:=Hw.out;omega
              case rel=>exact ⟨(anz),(wrap64 (bS + 1)),RF,H',⟨by have:=HK1.out;have:=HK2.out;have:=HK3.out;have:=Hw.out;omega⟩,⟨KS av6⟩,⟨KR gy⟩,⟨KR fI⟩,⟨by (with_reducible repeat (first|refine bZ ?_ _|refine bL ?_|refine bV ?_ _));exact dD.out⟩,⟨AGE rZ⟩⟩
             ·replace c29:=NF c29;subst c29;replace H:=IN H;have H':=AM H;clear H;try go_wp2
              replace bB:=AM (Kd.dB bB.out);replace gy:=AM (Kd.bF gy.out);replace fI:=AM (Kd.bF fI.out);replace dD:=AM (bL dD.out);replace HB:=AM (fA HB.out);have BO : 0 ≤ (bS : Int):=OD AS;have BP : bS < (aH.length : Int):=OD AS;obtain ⟨SN,e318,FJ,FL,FM⟩:=uW (Kd.aA gy.out).2.2 bS BO BP;obtain rfl : fV = SN:=(by injection e318);replace BO:=ET BO;replace BP:=ET BP;have Mc : 0 ≤ (bI : Int):=OD AS;have Md : bI < (aH.length : Int):=OD AS;obtain ⟨adw,agl,QW,QX,QY⟩:=uW (Kd.aA gy.out).2.2 bI Mc Md;obtain rfl : fV = adw:=(by injection agl);replace Mc:=ET Mc;replace Md:=ET Md;have Me : 0 ≤ (bS : Int):=OD AS;have Mf : bS < (aH.length : Int):=OD AS;obtain ⟨adx,e321,QZ,Q0,Q5⟩:=uW (Kd.aA gy.out).2.2 bS Me Mf;obtain rfl : fV = adx:=(by injection e321);replace Me:=ET Me;replace Mf:=ET Mf;refine PSt (n:=17) (S:=fun w'=>w'.cell? ⟨iI,0,none⟩ = some (.int .i64 ((aI aH bg).f0))∧w'.cell? ⟨iI,1,none⟩ = some (.int .i64 ((aI aH bg).f1))∧w'.cell? ⟨iI,2,none⟩ = some (.int .i64 ((aI aH bg).f2))∧w'.cell? (fV.add ((bS).toNat * 3)) = some (.int .i64 ((aI aH bS).f0))∧w'.cell? ⟨(fV.add ((bS).toNat * 3)).block,(fV.add ((bS).toNat * 3)).off + 1,none⟩ = some (.int .i64 ((aI aH bS).f1))∧w'.cell? ⟨(fV.add ((bS).toNat * 3)).block,(fV.add ((bS).toNat * 3)).off + 2,none⟩ = some (.int .i64 ((aI aH bS).f2))∧w'.cell? (fV.add ((bI).toNat * 3)) = some (.int .i64 ((aI aH bI).f0))∧w'.cell? ⟨(fV.add ((bI).toNat * 3)).block,(fV.add ((bI).toNat * 3)).off + 1,none⟩ = some (.int .i64 ((aI aH bI).f1))∧w'.cell? ⟨(fV.add ((bI).toNat * 3)).block,(fV.add ((bI).toNat * 3)).off + 2,none⟩ = some (.int .i64 ((aI aH bI).f2))∧w'.cell? (fV.add ((bS).toNat * 3)) = some (.int .i64 ((aI aH bS).f0))∧w'.cell? ⟨(fV.add ((bS).toNat * 3)).block,(fV.add ((bS).toNat * 3)).off + 1,none⟩ = some (.int .i64 ((aI aH bS).f1))∧w'.cell? ⟨(fV.add ((bS).toNat * 3)).block,(fV.add ((bS).toNat * 3)).off + 2,none⟩ = some (.int .i64 ((aI aH bS).f2))) (ds:=[]) ⟨(BC dD.out 0).trans rfl,(BC dD.out 1).trans rfl,(BC dD.out 2).trans rfl,FJ,FL,FM,QW,QX,QY,QZ,Q0,Q5⟩ (fun hHeld=>?_);refine lK bT.adq bT.abI (fun HT_ HW_=>?_);generalize wc.drew = w38 at bB gy fI dD HB FJ FL FM QW QX QY QZ Q0 Q5 hHeld ⊢;refine PA 1 44 HT_ ?_;refine PA 2 45 HT_ ?_;refine PA 3 46 HT_ ?_;refine PB 0 43 HT_ HW_ hHeld ?_;refine PB 4 47 HT_ HW_ hHeld ?_;refine PC 5 48 HT_ (fun K hK=>?_);refine iL Try.func79 (by kernel_rfl) rfl #[.agg #[.int .i64 ((aI aH bg).f0),.int .i64 ((aI aH bg).f1),.int .i64 ((aI aH bg).f2)],.agg #[.int .i64 ((aI aH bS).f0),.int .i64 ((aI aH bS).f1),.int .i64 ((aI aH bS).f2)]] (by rfl) rfl rfl TA ?_;with_reducible refine (gL.calls BN ((aI aH bg).f0) ((aI aH bg).f1) ((aI aH bg).f2) ((aI aH bS).f0) ((aI aH bS).f1) ((aI aH bS).f2) true _ A24.out).mono ?_;rintro e w39 ⟨rfl,hb⟩;have BM:=LD hb hHeld.2.2.2.1;have r9:=LD hb hHeld.2.2.2.2.1;have sj:=LD hb hHeld.2.2.2.2.2.1;have Mg:=LD hb hHeld.2.2.2.2.2.2.1;have Mh:=LD hb hHeld.2.2.2.2.2.2.2.1;have Mi:=LD hb hHeld.2.2.2.2.2.2.2.2.1;have Mj:=LD hb hHeld.2.2.2.2.2.2.2.2.2.1;have JR:=LD hb hHeld.2.2.2.2.2.2.2.2.2.2.1;have JU:=LD hb hHeld.2.2.2.2.2.2.2.2.2.2.2;refine ⟨_,rfl,?_⟩;replace bB:=SB bB hb;replace gy:=RB gy hb;replace fI:=RB fI hb;replace dD:=AM (eU (g:=iI) (o:=.cells #[.int .i64 ((aI aH bg).f0),.int .i64 ((aI aH bg).f1),.int .i64 ((aI aH bg).f2)] 86 (0,0)) (BW dD) hb);replace HB:=HG rZ hb;try clear hb
              refine hK.out _ _ ⟨(BC dD.out 0).trans rfl,(BC dD.out 1).trans rfl,(BC dD.out 2).trans rfl,BM,r9,sj,Mg,Mh,Mi,Mj,JR,JU⟩ (fun hHeld=>?_);clear hK K;refine iy (a':=?_) ?_ ?_;rotate_left
              ·show Act.put _ (some 48) _ = _;simp only [Act.put,List.setIfInBounds_toArray,List.set_cons_zero,List.set_cons_succ,dJ,eX];rfl
              refine PA 6 49 HT_ ?_;refine PA 7 50 HT_ ?_;refine PA 8 51 HT_ ?_;refine PA 9 52 HT_ ?_;refine PA 11 54 HT_ ?_;refine PA 12 55 HT_ ?_;refine PA 13 56 HT_ ?_;refine PB 10 53 HT_ HW_ hHeld ?_;refine PB 14 57 HT_ HW_ hHeld ?_;refine PC 15 58 HT_ (fun K hK=>?_);refine iL Try.func79 (by kernel_rfl) rfl #[.agg #[.int .i64 ((aI aH bI).f0),.int .i64 ((aI aH bI).f1),.int .i64 ((aI aH bI).f2)],.agg #[.int .i64 ((aI aH bS).f0),.int .i64 ((aI aH bS).f1),.int .i64 ((aI aH bS).f2)]] (by rfl) rfl rfl TA ?_;with_reducible refine (gL.calls BN ((aI aH bI).f0) ((aI aH bI).f1) ((aI aH bI).f2) ((aI aH bS).f0) ((aI aH bS).f1) ((aI aH bS).f2) false _ A28.out).mono ?_;rintro e w40 ⟨rfl,hb⟩;have BM:=LD hb hHeld.2.2.2.1;have r9:=LD hb hHeld.2.2.2.2.1;have sj:=LD hb hHeld.2.2.2.2.2.1;have Mg:=LD hb hHeld.2.2.2.2.2.2.1;have Mh:=LD hb hHeld.2.2.2.2.2.2.2.1;have Mi:=LD hb hHeld.2.2.2.2.2.2.2.2.1;have Mj:=LD hb hHeld.2.2.2.2.2.2.2.2.2.1;have JR:=LD hb hHeld.2.2.2.2.2.2.2.2.2.2.1;have JU:=LD hb hHeld.2.2.2.2.2.2.2.2.2.2.2;refine ⟨_,rfl,?_⟩;replace bB:=SB bB hb;replace gy:=RB gy hb;replace fI:=RB fI hb;replace dD:=AM (eU (g:=iI) (o:=.cells #[.int .i64 ((aI aH bg).f0),.int .i64 ((aI aH bg).f1),.int .i64 ((aI aH bg).f2)] 86 (0,0)) (BW dD) hb);replace HB:=HG rZ hb;try clear hb
              refine hK.out _ _ ⟨(BC dD.out 0).trans rfl,(BC dD.out 1).trans rfl,(BC dD.out 2).trans rfl,BM,r9,sj,Mg,Mh,Mi,Mj,JR,JU⟩ (fun hHeld=>?_);clear hK K;refine iy (a':=?_) ?_ ?_;rotate_left
              ·show Act.put _ (some 58) _ = _;simp only [Act.put,List.setIfInBounds_toArray,List.set_cons_zero,List.set_cons_succ,dJ,eX];rfl
              refine PA 16 59 HT_ ?_;refine l8 (l5 HT_.out (by kernel_rfl)) ?_;try go_wp2
              go_roundg BN
              case measure=>have:=HK1.out;have:=HK2.out;have:=HK3.out;have:=Hw.out;omega
              case rel=>exact ⟨(lT),(wrap64 (bS + 1)),RF,H',⟨by have:=HK1.out;have:=HK2.out;have:=HK3.out;have:=Hw.out;omega⟩,⟨KS bB⟩,⟨KR gy⟩,⟨KR fI⟩,⟨by (with_reducible repeat (first|refine bZ ?_ _|refine bL ?_|refine bV ?_ _));exact dD.out⟩,⟨AGE rZ⟩⟩
            ·replace c25:=NF c25;subst c25;replace H:=IN H;have H':=AM H;clear H;try go_wp2
             replace bB:=AM (Kd.dB bB.out);replace gy:=AM (Kd.bF gy.out);replace fI:=AM (Kd.bF fI.out);replace dD:=AM (bL dD.out);replace HB:=AM (fA HB.out);have BO : 0 ≤ (bS : Int):=OD AS;have BP : bS < (aH.length : Int):=OD AS;obtain ⟨SN,e318,FJ,FL,FM⟩:=uW (Kd.aA gy.out).2.2 bS BO BP;obtain rfl : fV = SN:=(by injection e318);replace BO:=ET BO;replace BP:=ET BP;refine PSt (n:=17) (S:=fun w'=>w'.cell? ⟨iI,0,none⟩ = some (.int .i64 ((aI aH bg).f0))∧w'.cell? ⟨iI,1,none⟩ = some (.int .i64 ((aI aH bg).f1))∧w'.cell? ⟨iI,2,none⟩ = some (.int .i64 ((aI aH bg).f2))∧w'.cell? (fV.add ((bS).toNat * 3)) = some (.int .i64 ((aI aH bS).f0))∧w'.cell? ⟨(fV.add ((bS).toNat * 3)).block,(fV.add ((bS).toNat * 3)).off + 1,none⟩ = some (.int .i64 ((aI aH bS).f1))∧w'.cell? ⟨(fV.add ((bS).toNat * 3)).block,(fV.add ((bS).toNat * 3)).off + 2,none⟩ = some (.int .i64 ((aI aH bS).f2))) (ds:=[]) ⟨(BC dD.out 0).trans rfl,(BC dD.out 1).trans rfl,(BC dD.out 2).trans rfl,FJ,FL,FM⟩ (fun hHeld=>?_);refine lK bT.adq bT.abI (fun HT_ HW_=>?_);generalize wc.drew = w41 at bB gy fI dD HB FJ FL FM hHeld ⊢;refine PA 1 44 HT_ ?_;refine PA 2 45 HT_ ?_;refine PA 3 46 HT_ ?_;refine PB 0 43 HT_ HW_ hHeld ?_;refine PB 4 47 HT_ HW_ hHeld ?_;refine PC 5 48 HT_ (fun K hK=>?_);refine iL Try.func79 (by kernel_rfl) rfl #[.agg #[.int .i64 ((aI aH bg).f0),.int .i64 ((aI aH bg).f1),.int .i64 ((aI aH bg).f2)],.agg #[.int .i64 ((aI aH bS).f0),.int .i64 ((aI aH bS).f1),.int .i64 ((aI aH bS).f2)]] (by rfl) rfl rfl TA ?_;with_reducible refine (gL.calls BN ((aI aH bg).f0) ((aI aH bg).f1) ((aI aH bg).f2) ((aI aH bS).f0) ((aI aH bS).f1) ((aI aH bS).f2) false _ A24.out).mono ?_;rintro e w42 ⟨rfl,hb⟩;have BM:=LD hb hHeld.2.2.2.1;have r9:=LD hb hHeld.2.2.2.2.1;have sj:=LD hb hHeld.2.2.2.2.2;refine ⟨_,rfl,?_⟩;replace bB:=SB bB hb;replace gy:=RB gy hb;replace fI:=RB fI hb;replace dD:=AM (eU (g:=iI) (o:=.cells #[.int .i64 ((aI aH bg).f0),.int .i64 ((aI aH bg).f1),.int .i64 ((aI aH bg).f2)] 86 (0,0)) (BW dD) hb);replace HB:=HG rZ hb;try clear hb
             refine hK.out _ _ ⟨(BC dD.out 0).trans rfl,(BC dD.out 1).trans rfl,(BC dD.out 2).trans rfl,BM,r9,sj⟩ (fun hHeld=>?_);clear hK K;refine iy (a':=?_) ?_ ?_;rotate_left
             ·show Act.put _ (some 48) _ = _;simp only [Act.put,List.setIfInBounds_toArray,List.set_cons_zero,List.set_cons_succ,dJ,eX];rfl
             refine PA 6 49 HT_ ?_;refine uY (i:=7) (N:=some 50) (v:=undef) (a':=?_) #[true,true,true,true,true,true,true,true,false,false,false,false,false,false,false,false,false] rfl rfl (uV HT_.out (by kernel_rfl)) (fun _ _ _ h=>h) (Or.inr ⟨by rfl,rfl⟩) ?_ ?_;rotate_left
             ·exact PU
             refine uY (i:=8) (N:=some 51) (v:=undef) (a':=?_) #[true,true,true,true,true,true,true,true,true,false,false,false,false,false,false,false,false] rfl rfl (uV HT_.out (by kernel_rfl)) (fun _ _ _ h=>h) (Or.inr ⟨by rfl,rfl⟩) ?_ ?_;rotate_left
             ·exact PU
             refine uY (i:=9) (N:=some 52) (v:=undef) (a':=?_) #[true,true,true,true,true,true,true,true,true,true,false,false,false,false,false,false,false] rfl rfl (uV HT_.out (by kernel_rfl)) (fun _ _ _ h=>h) (Or.inr ⟨by rfl,rfl⟩) ?_ ?_;rotate_left
             ·exact PU
             refine uY (i:=10) (N:=some 53) (v:=undef) (a':=?_) #[true,true,true,true,true,true,true,true,true,true,true,false,false,false,false,false,false] rfl rfl (uV HT_.out (by kernel_rfl)) (fun _ _ _ h=>h) (Or.inr ⟨by rfl,rfl⟩) ?_ ?_;rotate_left
             ·exact PU
             refine uY (i:=11) (N:=some 54) (v:=undef) (a':=?_) #[true,true,true,true,true,true,true,true,true,true,true,true,false,false,false,false,false] rfl rfl (uV HT_.out (by kernel_rfl)) (fun _ _ _ h=>h) (Or.inr ⟨by rfl,rfl⟩) ?_ ?_;rotate_left
             ·exact PU
             refine uY (i:=12) (N:=some 55) (v:=undef) (a':=?_) #[true,true,true,true,true,true,true,true,true,true,true,true,true,false,false,false,false] rfl rfl (uV HT_.out (by kernel_rfl)) (fun _ _ _ h=>h) (Or.inr ⟨by rfl,rfl⟩) ?_ ?_;rotate_left
             ·exact PU
             refine uY (i:=13) (N:=some 56) (v:=undef) (a':=?_) #[true,true,true,true,true,true,true,true,true,true,true,true,true,true,false,false,false] rfl rfl (uV HT_.out (by kernel_rfl)) (fun _ _ _ h=>h) (Or.inr ⟨by rfl,rfl⟩) ?_ ?_;rotate_left
             ·exact PU
             refine uY (i:=14) (N:=some 57) (v:=undef) (a':=?_) #[true,true,true,true,true,true,true,true,true,true,true,true,true,true,true,false,false] rfl rfl (uV HT_.out (by kernel_rfl)) (fun _ _ _ h=>h) (Or.inr ⟨by rfl,rfl⟩) ?_ ?_;rotate_left
             ·exact PU
             refine uY (i:=15) (N:=some 58) (v:=undef) (a':=?_) #[true,true,true,true,true,true,true,true,true,true,true,true,true,true,true,true,false] rfl rfl (uV HT_.out (by kernel_rfl)) (fun _ _ _ h=>h) (Or.inr ⟨by rfl,rfl⟩) ?_ ?_;rotate_left
             ·exact PU
             refine PA 16 59 HT_ ?_;refine l8 (l5 HT_.out (by kernel_rfl)) ?_;try go_wp2
             go_roundg BN
             case measure=>have:=HK1.out;have:=HK2.out;have:=HK3.out;have:=Hw.out;omega
             case rel=>exact ⟨(lT),(wrap64 (bS + 1)),RF,H',⟨by have:=HK1.out;have:=HK2.out;have:=HK3.out;have:=Hw.out;omega⟩,⟨KS bB⟩,⟨KR gy⟩,⟨KR fI⟩,⟨by (with_reducible repeat (first|refine bZ ?_ _|refine bL ?_|refine bV ?_ _));exact dD.out⟩,⟨AGE rZ⟩⟩
           ·replace c21:=NF c21;subst c21;replace H:=IN H;have H':=AM H;clear H;go_wp2;go_roundg BN
            case measure=>have:=HK1.out;have:=HK2.out;have:=HK3.out;have:=Hw.out;omega
            case rel=>exact ⟨(lT),(wrap64 (bI + 1)),RF,H',⟨by have:=HK1.out;have:=HK2.out;have:=HK3.out;have:=Hw.out;omega⟩,⟨KS bB⟩,⟨KR gy⟩,⟨KR fI⟩,⟨by (with_reducible repeat (first|refine bZ ?_ _|refine bL ?_|refine bV ?_ _));exact dD.out⟩,⟨AGE rZ⟩⟩
      ·rw [if_neg c12] at H;have rQ:=DF c12;clear c12;have H':=AM H;clear H;go_wp2;go_roundg k2
       case measure=>have:=HK1.out;have:=HK2.out;omega
       case rel=>exact ⟨(nT),(wrap64 (bg + 1)),RF,H',⟨by have:=HK1.out;have:=HK2.out;omega⟩,⟨KS bB⟩,⟨by (with_reducible repeat (first|apply Kd.dh|apply Kd.dn|apply Kd.bF));exact Kd.aM gy.out (fun _ hk=>trivial)⟩,⟨by (with_reducible repeat (first|apply Kd.dh|apply Kd.dn|apply Kd.bF));exact Kd.aM fI.out (fun _ hk=>trivial)⟩,⟨AGE rZ⟩⟩
   ·rw [if_neg c7] at H;have kS:=DF c7;clear c7;obtain rfl:=Option.some.inj H;go_wp2;go_ret;exact ⟨_,RE,KS bB,BB⟩

end Go.Proofs.Ythaonijhfeemfaa.dL
