-- Written by a program of this session (wip/tools/pp.sh) out of the translation; Lean checks it.
import Derived.Test.YthaonijhfeemfaaPFnWalksEndFullx11
namespace Go.Proofs.Ythaonijhfeemfaa.dL
open Go.RowKit Go.Proofs.YthaonijhfeemfaaOwn Go.Proofs.YthaonijhfeemfaaW.bU Go.Proofs.YthaonijhfeemfaaW.fB Go.Proofs.YthaonijhfeemfaaW.iw
attribute [local go_sem] nG nH nK nL nD nE nI nJ   -- for this text's walks alone
set_option linter.unusedVariables false
set_option maxHeartbeats 8000000
set_option maxRecDepth 100000
set_option linter.unusedSimpArgs false

mutual
def fG.j0 : Nat→Int→Int→Bool→Int→List Int→List (List Int)→List Int→Option (List Int × Bool)
 | 0,_,_,_,_,_,_,_=>none
 | k + 1,x2,x3,x31,aiy,aiz,aiA,aiB=>if x31 = true then (some (([] : List Int),false)) else ((jB.f k aiy aiz aiA aiB x2 x3).bind fun ak1=>(if ak1.2.2 = true then (some (([] : List Int),false)) else ((jO.f k aiy aiz aiA aiB).bind fun jM=>(fG.l0 k ak1.2.1 jM (jM.length : Int) 0))))
def fG.l0 : Nat→List Int→List (List Int)→Int→Int→Option (List Int × Bool)
 | 0,_,_,_,_=>none
 | k + 1,x13,x42,x43,x44=>if x44 < x43 then (if 0 ≤ x44 then (if x44 < (x42.length : Int) then (if 0 < ((ah x42 x44).length : Int) then (if 1 < ((ah x42 x44).length : Int) then ((qF.f (rd (ah x42 x44) 0) (rd (ah x42 x44) 1)).bind fun GY=>((jA.f k GY x13).bind fun aeN=>(if aeN = true then (some (ah x42 x44,true)) else (fG.l0 k x13 x42 x43 (wrap64 (x44 + 1)))))) else (none)) else (none)) else (none)) else (none)) else (some (([] : List Int),false))
end
def fG.f (k : Nat) (a0 : Int) (l1 : List Int) (a2 : Int) (a3 : Int) : Option (List Int × Bool):=(iP.f k a0 l1).bind fun nR=>(if nR.2.2.2.2 = true then ((sG.f k nR.1 nR.2.1 nR.2.2.1 nR.2.2.2.1 a2 a3).bind fun OO=>(fG.j0 k a2 a3 (!OO) nR.1 nR.2.1 nR.2.2.1 nR.2.2.2.1)) else (fG.j0 k a2 a3 true nR.1 nR.2.1 nR.2.2.1 nR.2.2.2.1))
theorem fG.bC : ∀ k,(∀ y0 y1 y2 y3 y4 y5 y6,LeO (fG.j0 k y0 y1 y2 y3 y4 y5 y6) (fG.j0 (k + 1) y0 y1 y2 y3 y4 y5 y6))∧(∀ y0 y1 y2 y3,LeO (fG.l0 k y0 y1 y2 y3) (fG.l0 (k + 1) y0 y1 y2 y3))
 | 0=>⟨fun _ _ _ _ _ _ _=>LZ,fun _ _ _ _=>LZ⟩
 | k + 1=>by
  obtain ⟨ih0,ih1⟩:=fG.bC k
  have m0:=@iP.mono
  have m1:=@jB.mono
  have m2:=@jO.mono
  have m3:=@sG.mono
  have m4:=@jA.mono
  refine ⟨?_,?_⟩ <;> intros
  all_goals (first|unfold fG.j0|unfold fG.l0)
  all_goals exact MO
theorem fG.mono : ∀ a0 a1 a2 a3 k,LeO (fG.f k a0 a1 a2 a3) (fG.f (k + 1) a0 a1 a2 a3):=by
 intro a0 a1 a2 a3 k;obtain ⟨ih0,ih1⟩:=fG.bC k;unfold fG.f
 have m0:=@iP.mono
 have m1:=@jB.mono
 have m2:=@jO.mono
 have m3:=@sG.mono
 have m4:=@jA.mono
 exact MO
def fG.T10 : Bool × List (List Nat × List Nat):=(true,[([],[]),([0],[0]),([1],[1]),([],[]),([3],[3]),([4],[4]),([2,5],[2,5]),([],[]),([6,7,6],[6,7])])
def fG.B10 : List Nat:=[0,1,3,0,8,24,63,0,255]
theorem fG.ak2 : fC .any (opsOf Try.f8 10) = fG.T10:=by kernel_rfl
theorem fG.ajK : lN fG.T10.2 fG.B10 = true:=by kernel_rfl
theorem fG.calls (k : Nat) (a0 : Int) (A1 : Option Addr) (c1 : Nat) (l1 : List Int) (a2 : Int) (a3 : Int) (r1 : List Int) (r2 : Bool) (w : World) (hr1 : Kd.C (Kd.int .i64) w A1 l1.length l1) (hc1 : l1.length ≤ c1) (h : fG.f k a0 l1 a2 a3 = some (r1,r2)) :
  Calls Try.prog 8 #[.int .i64 a0,.slice A1 l1.length c1,.int .i64 a2,.int .i64 a3] w fun e w'=>∃ v0_ : Value,e = .returned (.tuple #[v0_,.bool r2])∧Kd.R (Kd.int .i64) 3 w' w.heap.size (fun _=>True) v0_ r1∧Below w.heap.size w w':=by
 have uH:=Try.underlying43;have HR1:=AM hr1;have HC1:=AM hc1;clear hr1 hc1;have HB:=HRf w;have H : ((iP.f k a0 l1).bind fun nR=>(if nR.2.2.2.2 = true then ((sG.f k nR.1 nR.2.1 nR.2.2.1 nR.2.2.2.1 a2 a3).bind fun OO=>(fG.j0 k a2 a3 (!OO) nR.1 nR.2.1 nR.2.2.1 nR.2.2.2.1)) else (fG.j0 k a2 a3 true nR.1 nR.2.1 nR.2.2.1 nR.2.2.2.1))) = some (r1,r2):=h;clear h;replace H:=EA H;obtain ⟨⟨kU,jV,iY,iT,amu⟩,A5,H⟩:=H;try dsimp only at H
 have HC6:=AM H;clear H;go_enter Try.func8,Try.ntmps8;go_upto_region 2 with (first|(refine GC 22 ?_;refine GM (some 20) Try.func22 (iP.calls k a0 (fun k_=>k_ < w.heap.size) _ _ l1 kU jV iY iT amu _ (Kd.sW HC1.out (Kd.vS (Kd.C_F (Kd.qW .i64) HR1.out) BB)) A5.out) ?_;rintro e w7 ⟨aE5,axn,amv,rfl,ho0,ho1,ho2,hb⟩;refine ⟨_,rfl,?_⟩;have Ec:=AM (Kd.nN (Kd.dz (ok':=fun k_=>some k_≠(axn : Value).ownBlock∧some k_≠(amv : Value).ownBlock) ho0 (fun k_ hk_=>⟨hk_.2.1,hk_.2.2⟩)) (BZ BB));have Ed:=AM (Kd.jG (Kd.dx (ok':=fun k_=>some k_≠(amv : Value).ownBlock) ho1 (fun _ hk_=>hk_.2)) (BZ BB));have Ee:=AM (Kd.bD (Kd.aM (ok':=fun k_=>True) ho2 (fun _ hk_=>trivial)) (BZ BB));replace HB:=HS hb;try clear hb ho0 ho1 ho2)|((with_reducible refine dG (N:=10) rfl ?_);refine gq ?hg (N:=10) ?hd (cs:=#[.int .i64 0,.slice none 0 0,.slice none 0 0,.slice none 0 0]) (t:=43) ?hr ?_;(case hd=>rfl);(case hg=>rfl);(case hr=>exact GS);intro dI hg w8 aJ hb;replace Ec:=AM (Kd.rM (Kd.wV (KV Ec) dI (Nat.le_of_eq hg.symm)) hb);replace Ed:=SB Ed hb;replace Ee:=RB Ee hb;have dN:=AM aJ;have aCH:=AM ((by rw [hg];exact (BZ BB) : w.heap.size ≤ dI));have qN:=AM ((by rw [hg];exact (BZ BB) : w.heap.size ≤ dI));replace HB:=HS hb;clear hb aJ hg;have Ro : w8.cell? ⟨dI,0,none⟩ = some (.int .i64 0):=(BC dN.out 0).trans rfl;have Rp : w8.cell? ⟨dI,1,none⟩ = some (.slice none 0 0):=(BC dN.out 1).trans rfl;have Rq : w8.cell? ⟨dI,2,none⟩ = some (.slice none 0 0):=(BC dN.out 2).trans rfl;have VZ : w8.cell? ⟨dI,3,none⟩ = some (.slice none 0 0):=(BC dN.out 3).trans rfl;have V3:=BF dN.out 0;have Rs:=BF dN.out 1;have Rt:=BF dN.out 2;have V4:=BF dN.out 3;obtain ⟨cO,bY,uJ⟩:=Kd.qy Ec.out;subst uJ;obtain ⟨dH,dA,Br⟩:=Kd.jC Ed.out;subst Br;obtain ⟨dY,dR,Bt⟩:=Kd.bG Ee.out;subst Bt))
 (try simp only [Act.put,List.setIfInBounds_toArray,List.set_cons_zero,List.set_cons_succ]);go_cut [31] (fun v31 wc=>∃ (kq : Nat) (WQ : Bool),v31 = .bool WQ∧ak (fG.j0 kq a2 a3 WQ kU jV iY iT = some (r1,r2))∧ak (kq ≤ k)∧ak (Kd.V (Kd.int .i64) 3 wc w.heap.size (fun k_=>some k_≠((.slice dH iY.length dA) : Value).ownBlock∧some k_≠((.slice dY iT.length dR) : Value).ownBlock∧k_≠dI) (.slice cO jV.length bY) jV)∧ak (Kd.S (Kd.slice 3 (Kd.int .i64)) 24 wc w.heap.size (fun k_=>some k_≠((.slice dY iT.length dR) : Value).ownBlock) (.slice dH iY.length dA) iY)∧ak (Kd.R (Kd.int .i64) 3 wc w.heap.size (fun _=>True) (.slice dY iT.length dR) iT)∧ak (wc.heap[dI]? = some (.cells #[.int .i64 kU,(.slice cO jV.length bY),(.slice dH iY.length dA),(.slice dY iT.length dR)] 43 (0,0)))∧ak (Below w.heap.size w wc))
 case first =>
  have H:=HC6.out;clear HC6;by_cases c13 : amu = true
  ·subst c13;replace H:=IP H;replace H:=EA H;obtain ⟨OO,A14,H⟩:=H;have H':=AM H;clear H;have MW : w8.cell? ⟨dI,0,none⟩ = some (.int .i64 0):=(BC dN.out 0).trans rfl;have MX : w8.cell? ⟨dI,1,none⟩ = some (.slice none 0 0):=(BC dN.out 1).trans rfl;have MZ : w8.cell? ⟨dI,2,none⟩ = some (.slice none 0 0):=(BC dN.out 2).trans rfl;have M0 : w8.cell? ⟨dI,3,none⟩ = some (.slice none 0 0):=(BC dN.out 3).trans rfl;have M4:=BF dN.out 0;have M5:=BF dN.out 1;have M6:=BF dN.out 2;have M7:=BF dN.out 3;go_wp2_with (first|(go_at_call 23;(with_reducible refine (sG.calls k kU _ _ jV _ _ iY _ _ iT a2 a3 OO _ ?aU ?aV ?eu ?eB ?lC ?mQ A14.out).mono ?_);(case aU=>refine (Kd.gN (e:=3) (base:=w.heap.size) (ok:=fun k_=>((some k_≠(.slice dH iY.length dA : Value).ownBlock∧some k_≠(.slice dY iT.length dR : Value).ownBlock)∧k_≠dI)) (n:=jV.length) (c:=bY) ?_).2.2;exact (by (with_reducible repeat (first|apply Kd.jm|apply Kd.jo|apply Kd.fU));exact (Kd.dz (Kd.fO (p:=⟨dI,3,none⟩) (Kd.fO (p:=⟨dI,2,none⟩) (Kd.fO (p:=⟨dI,1,none⟩) (Kd.fO (p:=⟨dI,0,none⟩) (Kd.dz Ec.out (fun k_ hk=>(⟨hk,hk.2⟩ : _∧k_≠dI))) (fun _ hk=>hk.2) (.int .i64 kU)) (fun _ hk=>hk.2) (.slice cO jV.length bY)) (fun _ hk=>hk.2) (.slice dH iY.length dA)) (fun _ hk=>hk.2) (.slice dY iT.length dR)) (fun _ h_=>h_.1))));(case aV=>exact (Kd.gN Ec.out).2.1);(case eu=>refine (Kd.bW (e:=24) (base:=w.heap.size) (ok:=fun k_=>some k_≠(.slice dY iT.length dR : Value).ownBlock) (n:=iY.length) (c:=dA) ?_).2.2;exact (by (with_reducible repeat (first|apply Kd.fK|apply Kd.fM|apply Kd.dB));exact (Kd.dx (Kd.eG (p:=⟨dI,3,none⟩) (Kd.eG (p:=⟨dI,2,none⟩) (Kd.eG (p:=⟨dI,1,none⟩) (Kd.eG (p:=⟨dI,0,none⟩) (Kd.tX Ed.out dN.out (by decide)) (fun _ hk=>hk.2) (.int .i64 kU)) (fun _ hk=>hk.2) (.slice cO jV.length bY)) (fun _ hk=>hk.2) (.slice dH iY.length dA)) (fun _ hk=>hk.2) (.slice dY iT.length dR)) (fun _ h_=>h_.1))));(case eB=>exact (Kd.bW Ed.out).2.1);(case lC=>refine (Kd.aA (e:=3) (base:=w.heap.size) (ok:=fun k_=>True) (n:=iT.length) (c:=dR) ?_).2.2;exact (by (with_reducible repeat (first|apply Kd.dh|apply Kd.dn|apply Kd.bF));exact (Kd.aM (Kd.dP (p:=⟨dI,3,none⟩) (Kd.dP (p:=⟨dI,2,none⟩) (Kd.dP (p:=⟨dI,1,none⟩) (Kd.dP (p:=⟨dI,0,none⟩) (Kd.nM Ee.out dN.out (by decide)) (fun _ hk=>hk.2) (.int .i64 kU)) (fun _ hk=>hk.2) (.slice cO jV.length bY)) (fun _ hk=>hk.2) (.slice dH iY.length dA)) (fun _ hk=>hk.2) (.slice dY iT.length dR)) (fun _ h_=>h_.1))));(case mQ=>exact (Kd.aA Ee.out).2.1);rintro e w16 ⟨rfl,hb⟩;replace Ec:=AM (Kd.rM (by (with_reducible repeat (first|apply Kd.jm|apply Kd.jo|apply Kd.fU));exact (Kd.dz (Kd.fO (p:=⟨dI,3,none⟩) (Kd.fO (p:=⟨dI,2,none⟩) (Kd.fO (p:=⟨dI,1,none⟩) (Kd.fO (p:=⟨dI,0,none⟩) (Kd.dz Ec.out (fun k_ hk=>(⟨hk,hk.2⟩ : _∧k_≠dI))) (fun _ hk=>hk.2) (.int .i64 kU)) (fun _ hk=>hk.2) (.slice cO jV.length bY)) (fun _ hk=>hk.2) (.slice dH iY.length dA)) (fun _ hk=>hk.2) (.slice dY iT.length dR)) (fun _ h_=>h_.1))) hb);replace Ed:=AM (Kd.Fp (by (with_reducible repeat (first|apply Kd.fK|apply Kd.fM|apply Kd.dB));exact (Kd.dx (Kd.eG (p:=⟨dI,3,none⟩) (Kd.eG (p:=⟨dI,2,none⟩) (Kd.eG (p:=⟨dI,1,none⟩) (Kd.eG (p:=⟨dI,0,none⟩) (Kd.tX Ed.out dN.out (by decide)) (fun _ hk=>hk.2) (.int .i64 kU)) (fun _ hk=>hk.2) (.slice cO jV.length bY)) (fun _ hk=>hk.2) (.slice dH iY.length dA)) (fun _ hk=>hk.2) (.slice dY iT.length dR)) (fun _ h_=>h_.1))) hb);replace Ee:=AM (Kd.pX (by (with_reducible repeat (first|apply Kd.dh|apply Kd.dn|apply Kd.bF));exact (Kd.aM (Kd.dP (p:=⟨dI,3,none⟩) (Kd.dP (p:=⟨dI,2,none⟩) (Kd.dP (p:=⟨dI,1,none⟩) (Kd.dP (p:=⟨dI,0,none⟩) (Kd.nM Ee.out dN.out (by decide)) (fun _ hk=>hk.2) (.int .i64 kU)) (fun _ hk=>hk.2) (.slice cO jV.length bY)) (fun _ hk=>hk.2) (.slice dH iY.length dA)) (fun _ hk=>hk.2) (.slice dY iT.length dR)) (fun _ h_=>h_.1))) hb);replace dN:=AM (eU (g:=dI) (o:=.cells #[.int .i64 kU,.slice cO jV.length bY,.slice dH iY.length dA,.slice dY iT.length dR] 43 (0,0)) (by (with_reducible repeat (first|refine bZ ?_ _|refine bL ?_|refine bV ?_ _));refine fE (cs:=#[.int .i64 kU,.slice cO jV.length bY,.slice dH iY.length dA,.slice none 0 0]) ?_ 3 _ rfl;(with_reducible repeat (first|refine bZ ?_ _|refine bL ?_|refine bV ?_ _));refine fE (cs:=#[.int .i64 kU,.slice cO jV.length bY,.slice none 0 0,.slice none 0 0]) ?_ 2 _ rfl;(with_reducible repeat (first|refine bZ ?_ _|refine bL ?_|refine bV ?_ _));refine fE (cs:=#[.int .i64 kU,.slice none 0 0,.slice none 0 0,.slice none 0 0]) ?_ 1 _ rfl;(with_reducible repeat (first|refine bZ ?_ _|refine bL ?_|refine bV ?_ _));refine fE (cs:=#[.int .i64 0,.slice none 0 0,.slice none 0 0,.slice none 0 0]) ?_ 0 _ rfl;(with_reducible repeat (first|refine bZ ?_ _|refine bL ?_|refine bV ?_ _));exact dN.out) hb);replace HB:=HG qN hb;try clear hb));go_meet
   case rel=>exact ⟨_,(!OO),RF,H',⟨by first|omega|exact Nat.le_refl _⟩,⟨by (with_reducible repeat (first|apply Kd.jm|apply Kd.jo|apply Kd.fU));exact Kd.dz Ec.out (fun _ hk=>⟨hk.1.1,⟨hk.1.2,hk.2⟩⟩)⟩,⟨KS Ed⟩,⟨KR Ee⟩,⟨by (with_reducible repeat (first|refine bZ ?_ _|refine bL ?_|refine bV ?_ _));exact dN.out⟩,⟨AGE qN⟩⟩
  ·replace c13:=NF c13;subst c13;replace H:=IN H;have H':=AM H;clear H;go_wp2;go_meet
   case rel=>exact ⟨_,(true),RF,H',⟨by first|omega|exact Nat.le_refl _⟩,⟨by (with_reducible repeat (first|apply Kd.jm|apply Kd.jo|apply Kd.fU));exact Kd.dz (Kd.fO (p:=⟨dI,3,none⟩) (Kd.fO (p:=⟨dI,2,none⟩) (Kd.fO (p:=⟨dI,1,none⟩) (Kd.fO (p:=⟨dI,0,none⟩) (Kd.dz Ec.out (fun k_ hk=>(⟨hk,hk.2⟩ : _∧k_≠dI))) (fun _ hk=>hk.2) (.int .i64 kU)) (fun _ hk=>hk.2) (.slice cO jV.length bY)) (fun _ hk=>hk.2) (.slice dH iY.length dA)) (fun _ hk=>hk.2) (.slice dY iT.length dR)) (fun _ hk=>⟨hk.1.1.1,⟨hk.1.1.2,hk.1.2⟩⟩)⟩,⟨by (with_reducible repeat (first|apply Kd.fK|apply Kd.fM|apply Kd.dB));exact Kd.dx (Kd.eG (p:=⟨dI,3,none⟩) (Kd.eG (p:=⟨dI,2,none⟩) (Kd.eG (p:=⟨dI,1,none⟩) (Kd.eG (p:=⟨dI,0,none⟩) (Kd.tX Ed.out dN.out (by decide)) (fun _ hk=>hk.2) (.int .i64 kU)) (fun _ hk=>hk.2) (.slice cO jV.length bY)) (fun _ hk=>hk.2) (.slice dH iY.length dA)) (fun _ hk=>hk.2) (.slice dY iT.length dR)) (fun _ hk=>hk.1)⟩,⟨by (with_reducible repeat (first|apply Kd.dh|apply Kd.dn|apply Kd.bF));exact Kd.aM (Kd.dP (p:=⟨dI,3,none⟩) (Kd.dP (p:=⟨dI,2,none⟩) (Kd.dP (p:=⟨dI,1,none⟩) (Kd.dP (p:=⟨dI,0,none⟩) (Kd.nM Ee.out dN.out (by decide)) (fun _ hk=>hk.2) (.int .i64 kU)) (fun _ hk=>hk.2) (.slice cO jV.length bY)) (fun _ hk=>hk.2) (.slice dH iY.length dA)) (fun _ hk=>hk.2) (.slice dY iT.length dR)) (fun _ hk=>trivial)⟩,⟨by (with_reducible repeat (first|refine bZ ?_ _|refine bL ?_|refine bV ?_ _));refine fE (cs:=#[.int .i64 kU,.slice cO jV.length bY,.slice dH iY.length dA,.slice none 0 0]) ?_ 3 _ rfl;(with_reducible repeat (first|refine bZ ?_ _|refine bL ?_|refine bV ?_ _));refine fE (cs:=#[.int .i64 kU,.slice cO jV.length bY,.slice none 0 0,.slice none 0 0]) ?_ 2 _ rfl;(with_reducible repeat (first|refine bZ ?_ _|refine bL ?_|refine bV ?_ _));refine fE (cs:=#[.int .i64 kU,.slice none 0 0,.slice none 0 0,.slice none 0 0]) ?_ 1 _ rfl;(with_reducible repeat (first|refine bZ ?_ _|refine bL ?_|refine bV ?_ _));refine fE (cs:=#[.int .i64 0,.slice none 0 0,.slice none 0 0,.slice none 0 0]) ?_ 0 _ rfl;(with_reducible repeat (first|refine bZ ?_ _|refine bL ?_|refine bV ?_ _));exact dN.out⟩,⟨AGE qN⟩⟩
 case rest =>
  clear HC6;try clear c1
  try clear c2
  try clear p2
  try clear p6
  try clear c8
  try clear c13
  try clear MW
  try clear MX
  try clear MZ
  try clear M0
  try clear Ro
  try clear Rp
  try clear Rq
  try clear VZ
  try clear M4
  try clear M5
  try clear M6
  try clear M7
  try clear V3
  try clear Rs
  try clear Rt
  try clear V4
  obtain ⟨kq,WQ,rfl,HA,HJ5,oG,ni,lM,dN,HB⟩:=hcut;cases kq with
  | zero=>exact absurd HA.out (by simp [fG.j0])
  | succ kj5 =>
   have H:=HA.out;clear HA;simp only [fG.j0] at H;by_cases c17 : WQ = true
   ·subst c17;replace H:=IP H;simp only [Option.some.injEq,Prod.mk.injEq] at H;obtain ⟨rfl,rfl⟩:=H;go_wp2;go_ret2;exact ⟨_,RE,by first|exact Kd.om _ _ _ _ _|exact Kd.qz _ _ _ _ _|exact Kd.pE _ _ _ _ _|exact Kd.qA _ _ _ _ _|exact Kd.qB _ _ _ _ _,AGE qN⟩
   ·replace c17:=NF c17;subst c17;replace H:=IN H;replace H:=EA H;obtain ⟨⟨amw,GZ,axo⟩,A18,H⟩:=H;try dsimp only at H
    by_cases c19 : axo = true
    ·subst c19;replace H:=IP H;simp only [Option.some.injEq,Prod.mk.injEq] at H;obtain ⟨rfl,rfl⟩:=H;have apW : wc.cell? ⟨dI,0,none⟩ = some (.int .i64 kU):=(BC dN.out 0).trans rfl;have apX : wc.cell? ⟨dI,1,none⟩ = some (.slice cO jV.length bY):=(BC dN.out 1).trans rfl;have apY : wc.cell? ⟨dI,2,none⟩ = some (.slice dH iY.length dA):=(BC dN.out 2).trans rfl;have apZ : wc.cell? ⟨dI,3,none⟩ = some (.slice dY iT.length dR):=(BC dN.out 3).trans rfl;have ap0:=BF dN.out 0;have ap1:=BF dN.out 1;have ap2:=BF dN.out 2;have ap3:=BF dN.out 3;go_wp2_with (first|(refine GC 24 ?_;refine GM (some 36) Try.func24 (jB.calls kj5 kU _ _ jV _ _ iY _ _ iT a2 a3 amw GZ true _ (CW (Kd.gN oG.out).2.2) ((Kd.gN oG.out).2.1) (CW (Kd.bW ni.out).2.2) ((Kd.bW ni.out).2.1) (CW (Kd.aA lM.out).2.2) ((Kd.aA lM.out).2.1) A18.out) ?_;rintro e w21 ⟨aeO,amx,rfl,ho0,ho1,hb⟩;refine ⟨_,rfl,?_⟩;replace oG:=VO oG ho0 hb;have WR:=AM (Kd.bD (Kd.dM (Kd.aM (ok':=fun k_=>True) ho0 (fun _ hk_=>trivial)) (Kd.bJ (KR lM))) (BZ (AGE qN)));have WS:=AM (Kd.nN (Kd.dz (ok':=fun k_=>some k_≠(aeO : Value).ownBlock∧some k_≠(.slice dH iY.length dA : Value).ownBlock∧some k_≠(.slice dY iT.length dR : Value).ownBlock∧k_≠dI) ho1 (fun k_ hk_=>⟨hk_.2,(Kd.fresh' (Kd.oV (KS ni)) k_ hk_.1),(Kd.fresh' (Kd.bJ (KR lM)) k_ hk_.1),(Kd.xw (g:=dI) (o:=.cells #[.int .i64 kU,.slice cO jV.length bY,.slice dH iY.length dA,.slice dY iT.length dR] 43 (0,0)) (BW dN) k_ hk_.1)⟩)) (BZ (AGE qN)));replace ni:=SO ni ho0 hb;replace lM:=RO lM ho0 hb;replace dN:=AM (eU (g:=dI) (o:=.cells #[.int .i64 kU,.slice cO jV.length bY,.slice dH iY.length dA,.slice dY iT.length dR] 43 (0,0)) (BW dN) hb);replace HB:=HG qN hb;try clear hb ho0 ho1));go_ret2;exact ⟨_,RE,by first|exact Kd.om _ _ _ _ _|exact Kd.qz _ _ _ _ _|exact Kd.pE _ _ _ _ _|exact Kd.qA _ _ _ _ _|exact Kd.qB _ _ _ _ _,AGE qN⟩
    ·replace c19:=NF c19;subst c19;replace H:=IN H;replace H:=EA H;obtain ⟨jM,A22,H⟩:=H;have H':=AM H;clear H;have aiC : wc.cell? ⟨dI,0,none⟩ = some (.int .i64 kU):=(BC dN.out 0).trans rfl;have aiD : wc.cell? ⟨dI,1,none⟩ = some (.slice cO jV.length bY):=(BC dN.out 1).trans rfl;have aiE : wc.cell? ⟨dI,2,none⟩ = some (.slice dH iY.length dA):=(BC dN.out 2).trans rfl;have ap4 : wc.cell? ⟨dI,3,none⟩ = some (.slice dY iT.length dR):=(BC dN.out 3).trans rfl;have aiF:=BF dN.out 0;have aiG:=BF dN.out 1;have aiH:=BF dN.out 2;have ap5:=BF dN.out 3;go_wp2_with (first|(refine GC 24 ?_;refine GM (some 36) Try.func24 (jB.calls kj5 kU _ _ jV _ _ iY _ _ iT a2 a3 amw GZ false _ (CW (Kd.gN oG.out).2.2) ((Kd.gN oG.out).2.1) (CW (Kd.bW ni.out).2.2) ((Kd.bW ni.out).2.1) (CW (Kd.aA lM.out).2.2) ((Kd.aA lM.out).2.1) A18.out) ?_;rintro e w24 ⟨aeO,amx,rfl,ho0,ho1,hb⟩;refine ⟨_,rfl,?_⟩;replace oG:=VO oG ho0 hb;have WR:=AM (Kd.bD (Kd.dM (Kd.aM (ok':=fun k_=>True) ho0 (fun _ hk_=>trivial)) (Kd.bJ (KR lM))) (BZ (AGE qN)));have WS:=AM (Kd.nN (Kd.dz (ok':=fun k_=>some k_≠(aeO : Value).ownBlock∧some k_≠(.slice dH iY.length dA : Value).ownBlock∧some k_≠(.slice dY iT.length dR : Value).ownBlock∧k_≠dI) ho1 (fun k_ hk_=>⟨hk_.2,(Kd.fresh' (Kd.oV (KS ni)) k_ hk_.1),(Kd.fresh' (Kd.bJ (KR lM)) k_ hk_.1),(Kd.xw (g:=dI) (o:=.cells #[.int .i64 kU,.slice cO jV.length bY,.slice dH iY.length dA,.slice dY iT.length dR] 43 (0,0)) (BW dN) k_ hk_.1)⟩)) (BZ (AGE qN)));replace ni:=SO ni ho0 hb;replace lM:=RO lM ho0 hb;replace dN:=AM (eU (g:=dI) (o:=.cells #[.int .i64 kU,.slice cO jV.length bY,.slice dH iY.length dA,.slice dY iT.length dR] 43 (0,0)) (BW dN) hb);replace HB:=HG qN hb;try clear hb ho0 ho1;have ap6 : w24.cell? ⟨dI,0,none⟩ = some (.int .i64 kU):=(BC dN.out 0).trans rfl;have ap7 : w24.cell? ⟨dI,1,none⟩ = some (.slice cO jV.length bY):=(BC dN.out 1).trans rfl;have ap8 : w24.cell? ⟨dI,2,none⟩ = some (.slice dH iY.length dA):=(BC dN.out 2).trans rfl;have ap9 : w24.cell? ⟨dI,3,none⟩ = some (.slice dY iT.length dR):=(BC dN.out 3).trans rfl;have aqa:=BF dN.out 0;have aqb:=BF dN.out 1;have aqc:=BF dN.out 2;have aqd:=BF dN.out 3)|(refine GC 29 ?_;refine GM (some 42) Try.func29 (jO.calls kj5 kU _ _ jV _ _ iY _ _ iT jM _ (CW (Kd.gN oG.out).2.2) ((Kd.gN oG.out).2.1) (CW (Kd.bW ni.out).2.2) ((Kd.bW ni.out).2.1) (CW (Kd.aA lM.out).2.2) ((Kd.aA lM.out).2.1) A22.out) ?_;rintro e w26 ⟨aE6,rfl,ho0,hb⟩;refine ⟨_,rfl,?_⟩;replace oG:=AM (Kd.zP (KV oG) (Kd.sN ho0) hb);replace WS:=AM (Kd.zP (KV WS) (Kd.sN ho0) hb);have ak3:=AM (Kd.jG (Kd.oJ (Kd.oJ (Kd.oJ ho0 (Kd.oV (KS ni))) (Kd.bJ (KR lM))) (Kd.bJ (KR WR))) (BZ (AGE qN)));replace ni:=AM (Kd.zO (KS ni) (Kd.sN ho0) hb);replace lM:=RB lM hb;replace WR:=RB WR hb;replace dN:=AM (eU (g:=dI) (o:=.cells #[.int .i64 kU,.slice cO jV.length bY,.slice dH iY.length dA,.slice dY iT.length dR] 43 (0,0)) (BW dN) hb);replace HB:=HG qN hb;try clear hb ho0;obtain ⟨GN,EC,Bg⟩:=Kd.jC ak3.out;subst Bg));go_loopg [44] kj5 (fun kq v44 w'=>∃ (jP : Int),v44 = .int .i64 jP∧ak (fG.l0 kq GZ jM (jM.length : Int) jP = some (r1,r2))∧ak (kq ≤ kj5)∧ak (Kd.V (Kd.int .i64) 3 w' w.heap.size (fun k_=>some k_≠((.slice GN jM.length EC) : Value).ownBlock∧some k_≠((.slice dH iY.length dA) : Value).ownBlock∧some k_≠((.slice dY iT.length dR) : Value).ownBlock∧k_≠dI) amx GZ)∧ak (Kd.S (Kd.slice 3 (Kd.int .i64)) 24 w' w.heap.size (fun k_=>some k_≠((.slice dH iY.length dA) : Value).ownBlock∧some k_≠((.slice dY iT.length dR) : Value).ownBlock) (.slice GN jM.length EC) jM)∧ak (Kd.V (Kd.int .i64) 3 w' w.heap.size (fun k_=>some k_≠((.slice GN jM.length EC) : Value).ownBlock∧some k_≠((.slice dH iY.length dA) : Value).ownBlock∧some k_≠((.slice dY iT.length dR) : Value).ownBlock∧k_≠dI) (.slice cO jV.length bY) jV)∧ak (Kd.S (Kd.slice 3 (Kd.int .i64)) 24 w' w.heap.size (fun k_=>some k_≠((.slice GN jM.length EC) : Value).ownBlock∧some k_≠((.slice dY iT.length dR) : Value).ownBlock) (.slice dH iY.length dA) iY)∧ak (Kd.R (Kd.int .i64) 3 w' w.heap.size (fun _=>True) (.slice dY iT.length dR) iT)∧ak (w'.heap[dI]? = some (.cells #[.int .i64 kU,(.slice cO jV.length bY),(.slice dH iY.length dA),(.slice dY iT.length dR)] 43 (0,0)))∧ak (Below w.heap.size w w'))
     case atStart=>exact ⟨(0),RF,H',⟨Nat.le_refl _⟩,⟨by (with_reducible repeat (first|apply Kd.jm|apply Kd.jo|apply Kd.fU));exact Kd.dz WS.out (fun _ hk=>⟨hk.2,⟨hk.1.2.1,⟨hk.1.2.2.1,hk.1.2.2.2⟩⟩⟩)⟩,⟨by (with_reducible repeat (first|apply Kd.fK|apply Kd.fM|apply Kd.dB));exact Kd.dx ak3.out (fun _ hk=>⟨hk.1.1.2,hk.1.2⟩)⟩,⟨by (with_reducible repeat (first|apply Kd.jm|apply Kd.jo|apply Kd.fU));exact Kd.dz oG.out (fun _ hk=>⟨hk.2,⟨hk.1.1.1,⟨hk.1.1.2.1,hk.1.1.2.2⟩⟩⟩)⟩,⟨by (with_reducible repeat (first|apply Kd.fK|apply Kd.fM|apply Kd.dB));exact Kd.dx ni.out (fun _ hk=>⟨hk.2,hk.1.1⟩)⟩,⟨by (with_reducible repeat (first|apply Kd.dh|apply Kd.dn|apply Kd.bF));exact Kd.aM lM.out (fun _ hk=>trivial)⟩,⟨by (with_reducible repeat (first|refine bZ ?_ _|refine bL ?_|refine bV ?_ _));exact dN.out⟩,⟨AGE qN⟩⟩
     case round =>
      clear H';try clear c1
      try clear c2
      try clear p2
      try clear p6
      try clear c8
      try clear c13
      try clear c17
      try clear c19
      try clear c22
      try clear c24
      try clear MW
      try clear MX
      try clear MZ
      try clear M0
      try clear apW
      try clear apX
      try clear apY
      try clear apZ
      try clear aiC
      try clear aiD
      try clear aiE
      try clear ap4
      try clear ap6
      try clear ap7
      try clear ap8
      try clear ap9
      try clear Ro
      try clear Rp
      try clear Rq
      try clear VZ
      try clear M4
      try clear M5
      try clear M6
      try clear M7
      try clear ap0
      try clear ap1
      try clear ap2
      try clear ap3
      try clear aiF
      try clear aiG
      try clear aiH
      try clear ap5
      try clear aqa
      try clear aqb
      try clear aqc
      try clear aqd
      try clear V3
      try clear Rs
      try clear Rt
      try clear V4
      try clear p2
      try clear p6
      obtain ⟨jP,rfl,HA,HK2,uo,kI,oG,ni,lM,dN,HB⟩:=hrel;cases gk with
      | zero=>exact absurd HA.out (by simp [fG.l0])
      | succ k2 =>
       have H:=HA.out;clear HA;simp only [fG.l0] at H;by_cases c28 : jP < (jM.length : Int)
       ·rw [if_pos c28] at H;have Jt:=DT c28;clear c28;replace H:=IC H;obtain ⟨c29,H⟩:=H;have atf:=DT c29;clear c29;replace H:=IC H;obtain ⟨c30,H⟩:=H;have atg:=DT c30;clear c30;replace H:=IC H;obtain ⟨c31,H⟩:=H;have WB:=DT c31;have ath : decide (0 < (ah jM jP).length) = true:=DT (by omega);clear c31;replace H:=IC H;obtain ⟨c32,H⟩:=H;have at7:=DT c32;have aCI : decide (1 < (ah jM jP).length) = true:=DT (by omega);clear c32;replace H:=EA H;obtain ⟨GY,A33,H⟩:=H;replace H:=EA H;obtain ⟨aeN,A34,H⟩:=H;by_cases c35 : aeN = true
        ·subst c35;replace H:=IP H;simp only [Option.some.injEq,Prod.mk.injEq] at H;obtain ⟨rfl,rfl⟩:=H;have EI : 0 ≤ (jP : Int):=OD AS;have EJ : jP < (jM.length : Int):=OD AS;obtain ⟨aua,arW,arX,aeP,Z9,M8,Qq⟩:=gT (Kd.bW kI.out).2.2 jP EI EJ;cases aeP;obtain ⟨aub,abg,abh,Ry⟩:=Kd.ny kI.out [] jP EI (by first|exact EJ|exact OD AS|(have e_:=(Kd.bW kI.out).1;omega));obtain ⟨aqe,rfl,IG⟩:=abh;have zT:=Ry 0 _ rfl;rw [Nat.add_zero,show ((Kd.slice 3 (Kd.int .i64))).sz = 1 from rfl,Nat.mul_one] at zT;replace zT:=Option.some.inj (zT.symm.trans Z9);rw [zT] at IG;have wW:=AM (show Kd.R (Kd.int .i64) 3 _ _ _ _ (ah jM jP) from IG);clear zT IG;clear Ry abg;have vT:=AM Qq;have aqf:=AM M8;clear Qq M8;replace EI:=ET EI;replace EJ:=ET EJ;try go_wp2
         replace uo:=AM (Kd.fU uo.out);replace kI:=AM (Kd.dB kI.out);replace oG:=AM (Kd.fU oG.out);replace ni:=AM (Kd.dB ni.out);replace lM:=AM (Kd.bF lM.out);replace wW:=AM (Kd.bF wW.out);replace dN:=AM (bL dN.out);replace vT:=AM (Kd.sM vT.out);replace HB:=AM (fA HB.out);have KQ : 0 ≤ (0 : Int):=(by omega);have KT : 0 < ((ah jM jP).length : Int):=OD AS;obtain ⟨Ef,aeQ,DJ⟩:=Kd.aN (CX vT) 0 KQ KT;cases aeQ;have auc : (0 < (ah jM jP).length) = True:=ET (by omega)
         (try rw [show ((0 : Int)).toNat = 0 from rfl] at DJ)
         (try rw [Addr.add_zero'] at DJ);replace KQ:=ET KQ;replace KT:=ET KT;have KU : 0 ≤ (1 : Int):=(by omega);have KW : 1 < ((ah jM jP).length : Int):=OD AS;obtain ⟨acA,aeR,DK⟩:=Kd.aN (CX vT) 1 KU KW;obtain rfl : Ef = acA:=(by injection aeR)
         (try simp only [show (1 : Int).toNat = 1 from rfl,Nat.reduceMul,Nat.reduceEqDiff,Go.Addr.add,↓reduceIte] at DK);have aud : (1 < (ah jM jP).length) = True:=ET (by omega)
         (try rw [show ((1 : Int)).toNat = 1 from rfl] at DK);replace KU:=ET KU;replace KW:=ET KW;refine PSt (n:=9) (S:=fun w'=>w'.cell? Ef = some (.int .i64 (rd (ah jM jP) 0))∧w'.cell? ⟨Ef.block,Ef.off + 1,none⟩ = some (.int .i64 (rd (ah jM jP) 1))) (ds:=[]) ⟨DJ,DK⟩ (fun hHeld=>?_);refine lK fG.ak2 fG.ajK (fun HT_ HW_=>?_);generalize wr.drew = w36 at uo kI oG ni lM wW dN vT HB DJ DK hHeld ⊢;refine PA 0 48 HT_ ?_;refine PA 1 49 HT_ ?_;refine PA 3 51 HT_ ?_;refine PA 4 52 HT_ ?_;refine PA 7 55 HT_ ?_;refine PB 2 50 HT_ HW_ hHeld ?_;refine PB 5 53 HT_ HW_ hHeld ?_;refine PC 6 54 HT_ (fun K hK=>?_);refine iL Try.func31 (by kernel_rfl) rfl #[.int .i64 (rd (ah jM jP) 0),.int .i64 (rd (ah jM jP) 1)] (by rfl) rfl rfl TA ?_;with_reducible refine (qF.calls (rd (ah jM jP) 0) (rd (ah jM jP) 1) GY _ A33.out).mono ?_;rintro e w37 ⟨axp,rfl,ho0,hb⟩;have mX:=LD hb hHeld.1;have qd:=LD hb hHeld.2;refine ⟨_,rfl,?_⟩;replace uo:=VO uo ho0 hb;replace kI:=SO kI ho0 hb;replace oG:=VO oG ho0 hb;replace ni:=SO ni ho0 hb;have JA:=AM (Kd.bD (Kd.dM (Kd.dM ho0 (Kd.bJ (KR lM))) (Kd.bJ (KR wW))) (BZ (AGE qN)));replace lM:=RO lM ho0 hb;replace wW:=RO wW ho0 hb;replace dN:=AM (eU (g:=dI) (o:=.cells #[.int .i64 kU,.slice cO jV.length bY,.slice dH iY.length dA,.slice dY iT.length dR] 43 (0,0)) (BW dN) hb);replace vT:=AM (Kd.aQ (CX vT) hb);replace HB:=HG qN hb;try clear hb ho0
         obtain ⟨axq,axr,amy⟩:=Kd.bG JA.out
         (first|subst amy|(injection amy with f1_ f2_ f3_;have f4_:=f1_.symm;have f5_:=f3_.symm;clear f1_ f2_ f3_;subst f4_;subst f5_));obtain ⟨axt,axu,amA⟩:=Kd.qy uo.out
         (first|subst amA|(injection amA with f1_ f2_ f3_;have f4_:=f1_.symm;have f5_:=f3_.symm;clear f1_ f2_ f3_;subst f4_;subst f5_));refine hK.out _ _ ⟨mX,qd⟩ (fun hHeld=>?_);clear hK K;refine iy (a':=?_) ?_ ?_;rotate_left
         ·show Act.put _ (some 54) _ = _;simp only [Act.put,List.setIfInBounds_toArray,List.set_cons_zero,List.set_cons_succ,dJ,eX];rfl
         refine PC 8 56 HT_ (fun K hK=>?_);refine iL Try.func30 (by kernel_rfl) rfl #[.slice axq GY.length axr,.slice axt GZ.length axu] (by rfl) rfl rfl TA ?_;with_reducible refine (jA.calls k2 _ _ GY _ _ GZ true _ ?aU ?aV ?eu ?eB A34.out).mono ?_
         (case aU=>exact CW (Kd.aA JA.out).2.2)
         (case aV=>exact (Kd.aA JA.out).2.1)
         (case eu=>exact CW (Kd.gN uo.out).2.2)
         (case eB=>exact (Kd.gN uo.out).2.1);rintro e w' ⟨rfl,⟨nd,rfl⟩⟩;refine ⟨_,rfl,?_⟩;refine hK.out _ _ ⟨hHeld.1,hHeld.2⟩ (fun hHeld=>?_);clear hK K;refine iy (a':=?_) ?_ ?_;rotate_left
         ·show Act.put _ (some 56) _ = _;simp only [Act.put,List.setIfInBounds_toArray,List.set_cons_zero,List.set_cons_succ,dJ,eX];rfl
         refine l8 (l5 HT_.out (by kernel_rfl)) ?_;try go_wp2
         go_ret2;exact ⟨_,RE,by (with_reducible repeat (first|apply Kd.dh|apply Kd.dn|apply Kd.bF));exact Kd.aM wW.out (fun _ hk=>trivial),AGE qN⟩
        ·replace c35:=NF c35;subst c35;replace H:=IN H;have H':=AM H;clear H;have EI : 0 ≤ (jP : Int):=OD AS;have EJ : jP < (jM.length : Int):=OD AS;obtain ⟨aua,arW,arX,aeP,Z9,M8,Qq⟩:=gT (Kd.bW kI.out).2.2 jP EI EJ;cases aeP;obtain ⟨aub,abg,abh,Ry⟩:=Kd.ny kI.out [] jP EI (by first|exact EJ|exact OD AS|(have e_:=(Kd.bW kI.out).1;omega));obtain ⟨aqe,rfl,IG⟩:=abh;have zT:=Ry 0 _ rfl;rw [Nat.add_zero,show ((Kd.slice 3 (Kd.int .i64))).sz = 1 from rfl,Nat.mul_one] at zT;replace zT:=Option.some.inj (zT.symm.trans Z9);rw [zT] at IG;have wW:=AM (show Kd.R (Kd.int .i64) 3 _ _ _ _ (ah jM jP) from IG);clear zT IG;clear Ry abg;have vT:=AM Qq;have aqf:=AM M8;clear Qq M8;replace EI:=ET EI;replace EJ:=ET EJ;try go_wp2
         replace uo:=AM (Kd.fU uo.out);replace kI:=AM (Kd.dB kI.out);replace oG:=AM (Kd.fU oG.out);replace ni:=AM (Kd.dB ni.out);replace lM:=AM (Kd.bF lM.out);replace wW:=AM (Kd.bF wW.out);replace dN:=AM (bL dN.out);replace vT:=AM (Kd.sM vT.out);replace HB:=AM (fA HB.out);have KQ : 0 ≤ (0 : Int):=(by omega);have KT : 0 < ((ah jM jP).length : Int):=OD AS;obtain ⟨Ef,aeQ,DJ⟩:=Kd.aN (CX vT) 0 KQ KT;cases aeQ;have auc : (0 < (ah jM jP).length) = True:=ET (by omega)
         (try rw [show ((0 : Int)).toNat = 0 from rfl] at DJ)
         (try rw [Addr.add_zero'] at DJ);replace KQ:=ET KQ;replace KT:=ET KT;have KU : 0 ≤ (1 : Int):=(by omega);have KW : 1 < ((ah jM jP).length : Int):=OD AS;obtain ⟨acA,aeR,DK⟩:=Kd.aN (CX vT) 1 KU KW;obtain rfl : Ef = acA:=(by injection aeR)
         (try simp only [show (1 : Int).toNat = 1 from rfl,Nat.reduceMul,Nat.reduceEqDiff,Go.Addr.add,↓reduceIte] at DK);have aud : (1 < (ah jM jP).length) = True:=ET (by omega)
         (try rw [show ((1 : Int)).toNat = 1 from rfl] at DK);replace KU:=ET KU;replace KW:=ET KW;refine PSt (n:=9) (S:=fun w'=>w'.cell? Ef = some (.int .i64 (rd (ah jM jP) 0))∧w'.cell? ⟨Ef.block,Ef.off + 1,none⟩ = some (.int .i64 (rd (ah jM jP) 1))) (ds:=[]) ⟨DJ,DK⟩ (fun hHeld=>?_);refine lK fG.ak2 fG.ajK (fun HT_ HW_=>?_);generalize wr.drew = w40 at uo kI oG ni lM wW dN vT HB DJ DK hHeld ⊢;refine PA 0 48 HT_ ?_;refine PA 1 49 HT_ ?_;refine PA 3 51 HT_ ?_;refine PA 4 52 HT_ ?_;refine PA 7 55 HT_ ?_;refine PB 2 50 HT_ HW_ hHeld ?_;refine PB 5 53 HT_ HW_ hHeld ?_;refine PC 6 54 HT_ (fun K hK=>?_);refine iL Try.func31 (by kernel_rfl) rfl #[.int .i64 (rd (ah jM jP) 0),.int .i64 (rd (ah jM jP) 1)] (by rfl) rfl rfl TA ?_;with_reducible refine (qF.calls (rd (ah jM jP) 0) (rd (ah jM jP) 1) GY _ A33.out).mono ?_;rintro e w41 ⟨axp,rfl,ho0,hb⟩;have mX:=LD hb hHeld.1;have qd:=LD hb hHeld.2;refine ⟨_,rfl,?_⟩;replace uo:=VO uo ho0 hb;replace kI:=SO kI ho0 hb;replace oG:=VO oG ho0 hb;replace ni:=SO ni ho0 hb;have JA:=AM (Kd.bD (Kd.dM (Kd.dM ho0 (Kd.bJ (KR lM))) (Kd.bJ (KR wW))) (BZ (AGE qN)));replace lM:=RO lM ho0 hb;replace wW:=RO wW ho0 hb;replace dN:=AM (eU (g:=dI) (o:=.cells #[.int .i64 kU,.slice cO jV.length bY,.slice dH iY.length dA,.slice dY iT.length dR] 43 (0,0)) (BW dN) hb);replace vT:=AM (Kd.aQ (CX vT) hb);replace HB:=HG qN hb;try clear hb ho0
         obtain ⟨aeS,aeT,TU⟩:=Kd.bG JA.out
         (first|subst TU|(injection TU with f1_ f2_ f3_;have f4_:=f1_.symm;have f5_:=f3_.symm;clear f1_ f2_ f3_;subst f4_;subst f5_));obtain ⟨aeU,Ye,Yf⟩:=Kd.qy uo.out
         (first|subst Yf|(injection Yf with f1_ f2_ f3_;have f4_:=f1_.symm;have f5_:=f3_.symm;clear f1_ f2_ f3_;subst f4_;subst f5_));refine hK.out _ _ ⟨mX,qd⟩ (fun hHeld=>?_);clear hK K;refine iy (a':=?_) ?_ ?_;rotate_left
         ·show Act.put _ (some 54) _ = _;simp only [Act.put,List.setIfInBounds_toArray,List.set_cons_zero,List.set_cons_succ,dJ,eX];rfl
         refine PC 8 56 HT_ (fun K hK=>?_);refine iL Try.func30 (by kernel_rfl) rfl #[.slice aeS GY.length aeT,.slice aeU GZ.length Ye] (by rfl) rfl rfl TA ?_;with_reducible refine (jA.calls k2 _ _ GY _ _ GZ false _ ?aU ?aV ?eu ?eB A34.out).mono ?_
         (case aU=>exact CW (Kd.aA JA.out).2.2)
         (case aV=>exact (Kd.aA JA.out).2.1)
         (case eu=>exact CW (Kd.gN uo.out).2.2)
         (case eB=>exact (Kd.gN uo.out).2.1);rintro e w' ⟨rfl,⟨nd,rfl⟩⟩;refine ⟨_,rfl,?_⟩;refine hK.out _ _ ⟨hHeld.1,hHeld.2⟩ (fun hHeld=>?_);clear hK K;refine iy (a':=?_) ?_ ?_;rotate_left
         ·show Act.put _ (some 56) _ = _;simp only [Act.put,List.setIfInBounds_toArray,List.set_cons_zero,List.set_cons_succ,dJ,eX];rfl
         refine l8 (l5 HT_.out (by kernel_rfl)) ?_;try go_wp2
         go_roundg k2
         case measure=>have:=HJ5.out;have:=HK2.out;omega
         case rel=>exact ⟨(wrap64 (jP + 1)),RF,H',⟨by have:=HJ5.out;have:=HK2.out;omega⟩,⟨by (with_reducible repeat (first|apply Kd.jm|apply Kd.jo|apply Kd.fU));exact Kd.dz uo.out (fun _ hk=>⟨hk.1.1,⟨hk.1.2.1,⟨hk.1.2.2.1,hk.1.2.2.2⟩⟩⟩)⟩,⟨by (with_reducible repeat (first|apply Kd.fK|apply Kd.fM|apply Kd.dB));exact Kd.dx kI.out (fun _ hk=>⟨hk.1.1,hk.1.2⟩)⟩,⟨by (with_reducible repeat (first|apply Kd.jm|apply Kd.jo|apply Kd.fU));exact Kd.dz oG.out (fun _ hk=>⟨hk.1.1,⟨hk.1.2.1,⟨hk.1.2.2.1,hk.1.2.2.2⟩⟩⟩)⟩,⟨by (with_reducible repeat (first|apply Kd.fK|apply Kd.fM|apply Kd.dB));exact Kd.dx ni.out (fun _ hk=>⟨hk.1.1,hk.1.2⟩)⟩,⟨by (with_reducible repeat (first|apply Kd.dh|apply Kd.dn|apply Kd.bF));exact Kd.aM lM.out (fun _ hk=>trivial)⟩,⟨by (with_reducible repeat (first|refine bZ ?_ _|refine bL ?_|refine bV ?_ _));exact dN.out⟩,⟨AGE qN⟩⟩
       ·rw [if_neg c28] at H;have Jt:=DF c28;try (have aue:=Jt;rw [M8] at aue)
        clear c28;simp only [Option.some.injEq,Prod.mk.injEq] at H;obtain ⟨rfl,rfl⟩:=H;go_wp2;go_ret2;exact ⟨_,RE,by first|exact Kd.om _ _ _ _ _|exact Kd.qz _ _ _ _ _|exact Kd.pE _ _ _ _ _|exact Kd.qA _ _ _ _ _|exact Kd.qB _ _ _ _ _,AGE qN⟩

end Go.Proofs.Ythaonijhfeemfaa.dL
