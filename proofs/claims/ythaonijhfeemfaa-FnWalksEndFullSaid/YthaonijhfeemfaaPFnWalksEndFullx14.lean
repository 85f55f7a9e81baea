-- Written by a program of this session (wip/tools/pp.sh) out of the translation; Lean checks it.
import Derived.Test.YthaonijhfeemfaaPFnWalksEndFullx13
namespace Go.Proofs.Ythaonijhfeemfaa.dL
open Go.RowKit Go.Proofs.YthaonijhfeemfaaOwn Go.Proofs.YthaonijhfeemfaaW.bU Go.Proofs.YthaonijhfeemfaaW.fB Go.Proofs.YthaonijhfeemfaaW.iw
attribute [local go_sem] nG nH nK nL nD nE nI nJ   -- for this text's walks alone
set_option linter.unusedVariables false
set_option maxHeartbeats 8000000
set_option maxRecDepth 100000
set_option linter.unusedSimpArgs false

def lq.l0 : Nat→Int→Int→List Int→List (List Int)→Int→Int→Option (List Int)
 | 0,_,_,_,_,_,_=>none
 | k + 1,x1,x2,x7,x10,x11,x12=>if x12 < x11 then (if 0 ≤ x12 then (if x12 < (x10.length : Int) then ((ku.f k (ah x10 x12) x1).bind fun aeF=>(if aeF = true then ((ku.f k (ah x10 x12) x2).bind fun aeG=>(if aeG = true then (if x7.length < 17592186044416 then (lq.l0 k x1 x2 (x7 ++ [x12]) x10 x11 (wrap64 (x12 + 1))) else (none)) else (lq.l0 k x1 x2 x7 x10 x11 (wrap64 (x12 + 1))))) else (lq.l0 k x1 x2 x7 x10 x11 (wrap64 (x12 + 1))))) else (none)) else (none)) else (some x7)
def lq.f (k : Nat) (l0 : List (List Int)) (a1 : Int) (a2 : Int) : Option (List Int):=lq.l0 k a1 a2 ([] : List Int) l0 (l0.length : Int) 0
theorem lq.bC : ∀ k,(∀ y0 y1 y2 y3 y4 y5,LeO (lq.l0 k y0 y1 y2 y3 y4 y5) (lq.l0 (k + 1) y0 y1 y2 y3 y4 y5))
 | 0=>fun _ _ _ _ _ _ r h=>by simp [lq.l0] at h
 | k + 1=>by
  have ih0:=lq.bC k
  ·intro y0 y1 y2 y3 y4 y5
   unfold lq.l0
   have m0:=@ku.mono
   exact MO
theorem lq.mono : ∀ a0 a1 a2 k,LeO (lq.f k a0 a1 a2) (lq.f (k + 1) a0 a1 a2):=by
 intro a0 a1 a2 k;have ih0:=lq.bC k;unfold lq.f
 have m0:=@ku.mono
 exact MO
theorem lq.calls (k : Nat) (A0 : Option Addr) (c0 : Nat) (l0 : List (List Int)) (a1 : Int) (a2 : Int) (r : List Int) (w : World) (hr0 : Kd.C (Kd.slice 3 (Kd.int .i64)) w A0 l0.length l0) (hc0 : l0.length ≤ c0) (h : lq.f k l0 a1 a2 = some r) :
  Calls Try.prog 84 #[.slice A0 l0.length c0,.int .i64 a1,.int .i64 a2] w fun e w'=>∃ v0_ : Value,e = .returned (v0_)∧Kd.R (Kd.int .i64) 3 w' w.heap.size (fun _=>True) v0_ r∧Below w.heap.size w w':=by
 have HR0:=AM hr0;have HC0:=AM hc0;clear hr0 hc0;have HB:=HRf w;have H : (lq.l0 k a1 a2 ([] : List Int) l0 (l0.length : Int) 0) = some r:=h;clear h;have H':=AM H;clear H;go_enter Try.func84,Try.ntmps84;go_wp2;go_loopg [7,12] k (fun kq v7 v12 w'=>∃ (nC : List Int) (bM : Int),v12 = .int .i64 bM∧ak (lq.l0 kq a1 a2 nC l0 (l0.length : Int) bM = some r)∧ak (kq ≤ k)∧ak (Kd.R (Kd.int .i64) 3 w' w.heap.size (fun _=>True) v7 nC)∧ak (Below w.heap.size w w'))
 case atStart=>exact ⟨(([] : List Int)),(0),RF,H',⟨Nat.le_refl _⟩,⟨by first|exact Kd.om _ _ _ _ _|exact Kd.qz _ _ _ _ _|exact Kd.pE _ _ _ _ _|exact Kd.qA _ _ _ _ _|exact Kd.qB _ _ _ _ _⟩,⟨BB⟩⟩
 case round =>
  clear H';try clear p2
  obtain ⟨nC,bM,rfl,HA,HK1,bf,HB⟩:=hrel;cases gk with
  | zero=>exact absurd HA.out (by simp [lq.l0])
  | succ k1 =>
   have H:=HA.out;clear HA;simp only [lq.l0] at H;by_cases c4 : bM < (l0.length : Int)
   ·rw [if_pos c4] at H;have iR:=DT c4;clear c4;replace H:=IC H;obtain ⟨c5,H⟩:=H;have ko:=DT c5;clear c5;replace H:=IC H;obtain ⟨c6,H⟩:=H;have iA:=DT c6;clear c6;replace H:=EA H;obtain ⟨aeF,A7,H⟩:=H;by_cases c8 : aeF = true
    ·subst c8;replace H:=IP H;replace H:=EA H;obtain ⟨aeG,A9,H⟩:=H;by_cases c10 : aeG = true
     ·subst c10;replace H:=IP H;replace H:=IC H;obtain ⟨c11,H⟩:=H;have RV:=AM c11;clear c11;obtain ⟨amt,acw⟩ : ∃ y_ : List Int,y_ = (nC ++ [bM]):=⟨_,rfl⟩;replace H : (lq.l0 k1 a1 a2 amt l0 (l0.length : Int) (wrap64 (bM + 1))) = some r:=HY H acw;have atS:=AM acw;clear acw;have H':=AM H;clear H;have Bo : 0 ≤ (bM : Int):=OD AS;have Bp : bM < (l0.length : Int):=OD AS;obtain ⟨akV,ajF,ajG,TR,Fq,Fu,Fv⟩:=gT HR0.out bM Bo Bp;cases TR;try (replace Fq:=LC Fq)
      have Ir:=AM Fv;have Iu:=AM Fu;clear Fv Fu;replace Bo:=ET Bo;replace Bp:=ET Bp;go_wp2_with (first|(refine GC 93 ?_;refine GM (some 19) Try.func93 (ku.calls k1 _ _ (ah l0 bM) a1 true _ ?aU ?aV A7.out) ?_;(case aU=>exact CW (Kd.aQ Ir.out HB.out));(case aV=>exact Iu.out);rintro e w' ⟨rfl,⟨nd,rfl⟩⟩;refine ⟨_,rfl,?_⟩)|(go_at_call 93;(with_reducible refine (ku.calls k1 _ _ (ah l0 bM) a2 true _ ?aU ?aV A9.out).mono ?_);(case aU=>exact CW (Kd.aQ Ir.out BB));(case aV=>exact Iu.out);rintro e w' ⟨rfl,⟨nd,rfl⟩⟩)|((with_reducible refine pW (b:=.append) (xs:=#[.tmp 25,.tmp 27]) rfl ?_);at_builtin;refine Kd.qX (Kd.int .i64) (w0:=w) w.heap.size rfl (.tmp 25) (.tmp 27) 24 3 (.int .i64 0) 8 rfl Try.underlying24 info3 rfl (by decide) (by omega) u7 nC bM [.int .i64 bM] (fun _=>True) (fun _=>False) rfl rfl ?aP (fun _ hk=>hk.elim) ?aF ?aO ?aB ?aS ?aL ?_;(case aP=>exact rfl);(case aB=>exact BB);(case aF=>exact (fun _ _=>trivial));(case aO=>exact (KR bf));(case aS=>exact (BZ BB));(case aL=>have:=RV.out;omega);intro aEW w12 ho hb hg hat;rw [← atS.out] at ho;replace HB:=AM hb;have atT:=AM ho;clear bf;clear ho hb hg hat));go_roundg k1
      case measure=>have:=HK1.out;omega
      case rel=>exact ⟨(amt),(wrap64 (bM + 1)),RF,H',⟨by have:=HK1.out;omega⟩,⟨KR atT⟩,⟨BB⟩⟩
     ·replace c10:=NF c10;subst c10;replace H:=IN H;have H':=AM H;clear H;have Bo : 0 ≤ (bM : Int):=OD AS;have Bp : bM < (l0.length : Int):=OD AS;obtain ⟨akV,ajF,ajG,TR,Fq,Fu,Fv⟩:=gT HR0.out bM Bo Bp;cases TR;try (replace Fq:=LC Fq)
      have Ir:=AM Fv;have Iu:=AM Fu;clear Fv Fu;replace Bo:=ET Bo;replace Bp:=ET Bp;go_wp2_with (first|(refine GC 93 ?_;refine GM (some 19) Try.func93 (ku.calls k1 _ _ (ah l0 bM) a1 true _ ?aU ?aV A7.out) ?_;(case aU=>exact CW (Kd.aQ Ir.out HB.out));(case aV=>exact Iu.out);rintro e w' ⟨rfl,⟨nd,rfl⟩⟩;refine ⟨_,rfl,?_⟩)|(go_at_call 93;(with_reducible refine (ku.calls k1 _ _ (ah l0 bM) a2 false _ ?aU ?aV A9.out).mono ?_);(case aU=>exact CW (Kd.aQ Ir.out BB));(case aV=>exact Iu.out);rintro e w' ⟨rfl,⟨nd,rfl⟩⟩));go_roundg k1
      case measure=>have:=HK1.out;omega
      case rel=>exact ⟨(nC),(wrap64 (bM + 1)),RF,H',⟨by have:=HK1.out;omega⟩,⟨KR bf⟩,⟨BB⟩⟩
    ·replace c8:=NF c8;subst c8;replace H:=IN H;have H':=AM H;clear H;have Bo : 0 ≤ (bM : Int):=OD AS;have Bp : bM < (l0.length : Int):=OD AS;obtain ⟨akV,ajF,ajG,TR,Fq,Fu,Fv⟩:=gT HR0.out bM Bo Bp;cases TR;try (replace Fq:=LC Fq)
     have Ir:=AM Fv;have Iu:=AM Fu;clear Fv Fu;replace Bo:=ET Bo;replace Bp:=ET Bp;go_wp2_with (first|(refine GC 93 ?_;refine GM (some 19) Try.func93 (ku.calls k1 _ _ (ah l0 bM) a1 false _ (CW (Kd.aQ Ir.out HB.out)) Iu.out A7.out) ?_;rintro e w' ⟨rfl,⟨nd,rfl⟩⟩;refine ⟨_,rfl,?_⟩));go_roundg k1
     case measure=>have:=HK1.out;omega
     case rel=>exact ⟨(nC),(wrap64 (bM + 1)),RF,H',⟨by have:=HK1.out;omega⟩,⟨KR bf⟩,⟨BB⟩⟩
   ·rw [if_neg c4] at H;have iR:=DF c4;clear c4;obtain rfl:=Option.some.inj H;go_wp2;go_ret;exact ⟨_,RE,KR bf,BB⟩

def ig.l0 : Nat→Int→List Int→Int→Int→Option (Int)
 | 0,_,_,_,_=>none
 | k + 1,x2,x16,x17,x18=>if x18 < x17 then (if 0 ≤ x18 then (if x18 < (x16.length : Int) then (if (rd x16 x18) = x2 then (ig.l0 k x2 x16 x17 (wrap64 (x18 + 1))) else (some (rd x16 x18))) else (none)) else (none)) else (some (-1))
def ig.f (k : Nat) (l0 : List (List Int)) (l1 : List Int) (a2 : Int) : Option (Int):=if 0 < (l1.length : Int) then (if 1 < (l1.length : Int) then ((lq.f k l0 (rd l1 0) (rd l1 1)).bind fun wI=>(ig.l0 k a2 wI (wI.length : Int) 0)) else (none)) else (none)
theorem ig.bC : ∀ k,(∀ y0 y1 y2 y3,LeO (ig.l0 k y0 y1 y2 y3) (ig.l0 (k + 1) y0 y1 y2 y3))
 | 0=>fun _ _ _ _ r h=>by simp [ig.l0] at h
 | k + 1=>by
  have ih0:=ig.bC k
  ·intro y0 y1 y2 y3
   unfold ig.l0
   have m0:=@lq.mono
   exact MO
theorem ig.mono : ∀ a0 a1 a2 k,LeO (ig.f k a0 a1 a2) (ig.f (k + 1) a0 a1 a2):=by
 intro a0 a1 a2 k;have ih0:=ig.bC k;unfold ig.f
 have m0:=@lq.mono
 exact MO
def ig.T1 : Bool × List (List Nat × List Nat):=(true,[([],[]),([],[]),([1],[1]),([2],[2]),([],[]),([4],[4]),([5],[5]),([0,3,6],[0,3,6]),([7],[7]),([],[])])
def ig.B1 : List Nat:=[0,0,2,6,0,16,48,127,255,0]
theorem ig.KI : fC .any (opsOf Try.f56 1) = ig.T1:=by kernel_rfl
theorem ig.Jz : lN ig.T1.2 ig.B1 = true:=by kernel_rfl
theorem ig.calls (k : Nat) (A0 : Option Addr) (c0 : Nat) (l0 : List (List Int)) (A1 : Option Addr) (c1 : Nat) (l1 : List Int) (a2 : Int) (r : Int) (w : World) (hr0 : Kd.C (Kd.slice 3 (Kd.int .i64)) w A0 l0.length l0) (hc0 : l0.length ≤ c0) (hr1 : Kd.C (Kd.int .i64) w A1 l1.length l1) (hc1 : l1.length ≤ c1) (h : ig.f k l0 l1 a2 = some r) :
  Calls Try.prog 56 #[.slice A0 l0.length c0,.slice A1 l1.length c1,.int .i64 a2] w fun e w'=>e = .returned (.int .i64 r)∧Below w.heap.size w w':=by
 have HR0:=AM hr0;have HC0:=AM hc0;clear hr0 hc0;have HR1:=AM hr1;have HC1:=AM hc1;clear hr1 hc1;have HB:=HRf w;have H : (if 0 < (l1.length : Int) then (if 1 < (l1.length : Int) then ((lq.f k l0 (rd l1 0) (rd l1 1)).bind fun wI=>(ig.l0 k a2 wI (wI.length : Int) 0)) else (none)) else (none)) = some r:=h;clear h;replace H:=IC H;obtain ⟨c4,H⟩:=H;have iR:=DT c4;have JY : decide (0 < l1.length) = true:=DT (by omega);clear c4;replace H:=IC H;obtain ⟨c5,H⟩:=H;have ko:=DT c5;have Gw : decide (1 < l1.length) = true:=DT (by omega);clear c5;replace H:=EA H;obtain ⟨wI,A6,H⟩:=H;have H':=AM H;clear H;go_enter Try.func56,Try.ntmps56;try go_wp2
 replace HB:=AM (fA HB.out);have XZ : 0 ≤ (0 : Int):=(by omega);have X0 : 0 < (l1.length : Int):=OD AS;obtain ⟨WJ,axc,Iw⟩:=Kd.aN HR1.out 0 XZ X0;have Qk:=Iw
 (try rw [show ((0 : Int)).toNat = 0 from rfl] at Qk)
 (try rw [show 0 * 1 = 0 from rfl] at Qk)
 (try rw [Addr.add_zero'] at Qk);cases axc;have aCE : (0 < l1.length) = True:=ET (by omega)
 (try rw [show ((0 : Int)).toNat = 0 from rfl] at Iw)
 (try rw [Addr.add_zero'] at Iw);try (replace Iw:=LC Iw)
 replace XZ:=ET XZ;replace X0:=ET X0;have X3 : 0 ≤ (1 : Int):=(by omega);have X4 : 1 < (l1.length : Int):=OD AS;obtain ⟨atU,axd,Iy⟩:=Kd.aN HR1.out 1 X3 X4;have Ql:=Iy
 (try rw [show ((1 : Int)).toNat = 1 from rfl] at Ql)
 (try rw [show 1 * 1 = 1 from rfl] at Ql)
 (try simp only [Nat.reduceMul,Nat.reduceEqDiff,Go.Addr.add,↓reduceIte] at Ql);obtain rfl : WJ = atU:=(by injection axd)
 (try simp only [show (1 : Int).toNat = 1 from rfl,Nat.reduceMul,Nat.reduceEqDiff,Go.Addr.add,↓reduceIte] at Iy);have aCF : (1 < l1.length) = True:=ET (by omega)
 (try rw [show ((1 : Int)).toNat = 1 from rfl] at Iy);try (replace Iy:=LC Iy)
 replace X3:=ET X3;replace X4:=ET X4;refine PSt (n:=10) (S:=fun w'=>w'.cell? WJ = some (.int .i64 (rd l1 0))∧w'.cell? ⟨WJ.block,WJ.off + 1,none⟩ = some (.int .i64 (rd l1 1))) (ds:=[]) ⟨LC Qk,LC Ql⟩ (fun hHeld=>?_);refine lK ig.KI ig.Jz (fun HT_ HW_=>?_);generalize w.drew = w7 at HB Iw Iy hHeld ⊢;refine PA 0 9 HT_ ?_;refine PA 1 10 HT_ ?_;refine PA 2 11 HT_ ?_;refine PA 4 13 HT_ ?_;refine PA 5 14 HT_ ?_;refine PA 9 18 HT_ ?_;refine PB 3 12 HT_ HW_ hHeld ?_;refine PB 6 15 HT_ HW_ hHeld ?_;refine PC 7 16 HT_ (fun K hK=>?_);refine iL Try.func84 (by kernel_rfl) rfl #[.slice A0 l0.length c0,.int .i64 (rd l1 0),.int .i64 (rd l1 1)] (by rfl) rfl rfl TA ?_;with_reducible refine (lq.calls k _ _ l0 (rd l1 0) (rd l1 1) wI _ ?aU ?aV A6.out).mono ?_
 (case aU=>exact CW (Kd.aQ HR0.out HB.out))
 (case aV=>exact HC0.out);rintro e w8 ⟨aEX,rfl,ho0,hb⟩;refine ⟨_,rfl,?_⟩;have akW:=AM (Kd.bD ho0 (BZ BB));replace HB:=HS hb;try clear hb ho0
 obtain ⟨Ao9,co9,eo9⟩:=Kd.bG akW.out
 (first|subst eo9|(injection eo9 with f1_ f2_ f3_;have f4_:=f1_.symm;have f5_:=f3_.symm;clear f1_ f2_ f3_;subst f4_;subst f5_));refine hK.out _ _ ⟨LC Qk,LC Ql⟩ (fun hHeld=>?_);clear hK K;refine iy (a':=?_) ?_ ?_;rotate_left
 ·show Act.put _ (some 16) _ = _;simp only [Act.put,List.setIfInBounds_toArray,List.set_cons_zero,List.set_cons_succ,dJ,eX];rfl
 refine PA 8 17 HT_ ?_;refine l8 (l5 HT_.out (by kernel_rfl)) ?_;try go_wp2
 go_loopg [18] k (fun kq v18 w'=>∃ (zk : Int),v18 = .int .i64 zk∧ak (ig.l0 kq a2 wI (wI.length : Int) zk = some r)∧ak (kq ≤ k)∧ak (Kd.R (Kd.int .i64) 3 w' w.heap.size (fun _=>True) (.slice Ao9 wI.length co9) wI)∧ak (Below w.heap.size w w'))
 case atStart=>exact ⟨(0),RF,H',⟨Nat.le_refl _⟩,⟨KR akW⟩,⟨BB⟩⟩
 case round =>
  clear H';try clear c1
  try clear p2
  try clear c4
  try clear iR
  try clear JY
  try clear c5
  try clear ko
  try clear Gw
  try clear p5
  try clear q5
  try clear hx5
  try clear qi5
  try clear p6
  try clear c8
  try clear Iw
  try clear Iy
  try clear XZ
  try clear X3
  try clear X0
  try clear X4
  obtain ⟨zk,rfl,HA,HK1,acy,HB⟩:=hrel;cases gk with
  | zero=>exact absurd HA.out (by simp [ig.l0])
  | succ k1 =>
   have H:=HA.out;clear HA;simp only [ig.l0] at H;by_cases c10 : zk < (wI.length : Int)
   ·rw [if_pos c10] at H;have mE:=DT c10;clear c10;replace H:=IC H;obtain ⟨c11,H⟩:=H;have qK:=DT c11;clear c11;replace H:=IC H;obtain ⟨c12,H⟩:=H;have rQ:=DT c12;clear c12;by_cases c13 : (rd wI zk) = a2
    ·rw [if_pos c13] at H;have D6:=QT c13;have WC:=bne_eq_false_iff_eq.mpr c13;clear c13;have H':=AM H;clear H;have KJ : 0 ≤ (zk : Int):=OD AS;have KL : zk < (wI.length : Int):=OD AS;obtain ⟨atV,aeH,apQ⟩:=Kd.aN (Kd.aA acy.out).2.2 zk KJ KL;cases aeH;replace KJ:=ET KJ;replace KL:=ET KL;go_wp2;go_roundg k1
     case measure=>have:=HK1.out;omega
     case rel=>exact ⟨(wrap64 (zk + 1)),RF,H',⟨by have:=HK1.out;omega⟩,⟨KR acy⟩,⟨BB⟩⟩
    ·rw [if_neg c13] at H;have D6:=beq_eq_false_iff_ne.mpr c13;have WC:=bne_iff_ne.mpr c13;obtain rfl:=Option.some.inj H;have KJ : 0 ≤ (zk : Int):=OD AS;have KL : zk < (wI.length : Int):=OD AS;obtain ⟨atV,aeH,apQ⟩:=Kd.aN (Kd.aA acy.out).2.2 zk KJ KL;cases aeH;replace KJ:=ET KJ;replace KL:=ET KL;go_wp2;go_ret;exact ⟨RE,BB⟩
   ·rw [if_neg c10] at H;have mE:=DF c10;clear c10;obtain rfl:=Option.some.inj H;go_wp2;go_ret;exact ⟨RE,BB⟩

mutual
def d9.l0 : Nat→List (List Int)→List Int→List Int→Int→List Int→Option (List Int × List Int)
 | 0,_,_,_,_,_=>none
 | k + 1,x0,x1,x2,x3,x10=>if x3 ≥ 0 then (d9.j1 k x0 x1 x2 x3 x10 (decide ((x10.length : Int) ≤ (x0.length : Int)))) else (d9.j1 k x0 x1 x2 x3 x10 false)
def d9.j1 : Nat→List (List Int)→List Int→List Int→Int→List Int→Bool→Option (List Int × List Int)
 | 0,_,_,_,_,_,_=>none
 | k + 1,x0,x1,x2,x3,x10,x21=>if x21 = true then (if x10.length < 17592186044416 then ((some (x10 ++ [x3] : List Int)).bind fun EF=>(if 0 ≤ x3 then (if x3 < (x0.length : Int) then ((eT.f k x1 (ah x0 x3)).bind fun TS=>(if TS = true then (some (EF,x2)) else ((fD.f k x1 (ah x0 x3)).bind fun qR=>(d9.l1 k x0 x1 x2 x3 EF qR (qR.length : Int) 0)))) else (none)) else (none))) else (none)) else (some (x10,x2))
def d9.l1 : Nat→List (List Int)→List Int→List Int→Int→List Int→List (List Int)→Int→Int→Option (List Int × List Int)
 | 0,_,_,_,_,_,_,_,_=>none
 | k + 1,x0,x1,x2,x3,x10,x37,x38,x39=>if x39 < x38 then (if 0 ≤ x39 then (if x39 < (x37.length : Int) then ((jk.f k (ah x37 x39) x2).bind fun aeI=>(if aeI = true then (d9.l1 k x0 x1 x2 x3 x10 x37 x38 (wrap64 (x39 + 1))) else ((ig.f k x0 (ah x37 x39) x3).bind fun X5=>(d9.l0 k x0 x1 (ah x37 x39) X5 x10)))) else (none)) else (none)) else ((ig.f k x0 x2 x3).bind fun X6=>(d9.l0 k x0 x1 x2 X6 x10))
end
def d9.f (k : Nat) (l0 : List (List Int)) (l1 : List Int) (l2 : List Int) (a3 : Int) : Option (List Int × List Int):=d9.l0 k l0 l1 l2 a3 ([] : List Int)
theorem d9.bC : ∀ k,(∀ y0 y1 y2 y3 y4,LeO (d9.l0 k y0 y1 y2 y3 y4) (d9.l0 (k + 1) y0 y1 y2 y3 y4))∧(∀ y0 y1 y2 y3 y4 y5,LeO (d9.j1 k y0 y1 y2 y3 y4 y5) (d9.j1 (k + 1) y0 y1 y2 y3 y4 y5))∧(∀ y0 y1 y2 y3 y4 y5 y6 y7,LeO (d9.l1 k y0 y1 y2 y3 y4 y5 y6 y7) (d9.l1 (k + 1) y0 y1 y2 y3 y4 y5 y6 y7))
 | 0=>⟨fun _ _ _ _ _=>LZ,fun _ _ _ _ _ _=>LZ,fun _ _ _ _ _ _ _ _=>LZ⟩
 | k + 1=>by
  obtain ⟨ih0,ih1,ih2⟩:=d9.bC k
  have m0:=@eT.mono
  have m1:=@ig.mono
  have m2:=@fD.mono
  have m3:=@jk.mono
  refine ⟨?_,?_,?_⟩ <;> intros
  all_goals (first|unfold d9.l0|unfold d9.j1|unfold d9.l1)
  all_goals exact MO
theorem d9.mono : ∀ a0 a1 a2 a3 k,LeO (d9.f k a0 a1 a2 a3) (d9.f (k + 1) a0 a1 a2 a3):=by
 intro a0 a1 a2 a3 k;obtain ⟨ih0,ih1,ih2⟩:=d9.bC k;unfold d9.f
 have m0:=@eT.mono
 have m1:=@ig.mono
 have m2:=@fD.mono
 have m3:=@jk.mono
 exact MO
theorem d9.calls (k : Nat) (A0 : Option Addr) (c0 : Nat) (l0 : List (List Int)) (A1 : Option Addr) (c1 : Nat) (l1 : List Int) (P2_ : Nat→Prop) (A2 : Option Addr) (c2 : Nat) (l2 : List Int) (a3 : Int) (r1 : List Int) (r2 : List Int) (w : World) (hr0 : Kd.C (Kd.slice 3 (Kd.int .i64)) w A0 l0.length l0) (hc0 : l0.length ≤ c0) (hr1 : Kd.C (Kd.int .i64) w A1 l1.length l1) (hc1 : l1.length ≤ c1) (hs2 : Kd.V (Kd.int .i64) 3 w w.heap.size (fun k_=>P2_ k_) (.slice A2 l2.length c2) l2) (h : d9.f k l0 l1 l2 a3 = some (r1,r2)) :
  Calls Try.prog 55 #[.slice A0 l0.length c0,.slice A1 l1.length c1,.slice A2 l2.length c2,.int .i64 a3] w fun e w'=>∃ v0_ v1_ : Value,e = .returned (.tuple #[v0_,v1_])∧Kd.R (Kd.int .i64) 3 w' w.heap.size (fun k_=>(w.heap.size ≤ k_)) v0_ r1∧Kd.V (Kd.int .i64) 3 w' w.heap.size (fun k_=>(P2_ k_ ∨ w.heap.size ≤ k_)∧some k_≠(v0_ : Value).ownBlock) v1_ r2∧Below w.heap.size w w':=by
 have HR0:=AM hr0;have HC0:=AM hc0;clear hr0 hc0;have HR1:=AM hr1;have HC1:=AM hc1;clear hr1 hc1;have HO2:=AM (show Kd.V (Kd.int .i64) 3 w w.heap.size (fun k_=>(P2_ k_ ∨ w.heap.size ≤ k_)) (.slice A2 l2.length c2) l2 from Kd.dz hs2 (fun k_ hk=>.inl hk));have HB:=HRf w;have H : (d9.l0 k l0 l1 l2 a3 ([] : List Int)) = some (r1,r2):=h;clear h;have H':=AM H;clear H;go_enter Try.func55,Try.ntmps55;go_wp2;go_loopg [2,3,10] k (fun kq v2 v3 v10 w'=>∃ (wH : List Int) (dO : Int) (gH : List Int),v3 = .int .i64 dO∧ak (d9.l0 kq l0 l1 wH dO gH = some (r1,r2))∧ak (kq ≤ k)∧ak (Kd.V (Kd.int .i64) 3 w' w.heap.size (fun k_=>(P2_ k_ ∨ w.heap.size ≤ k_)∧some k_≠(v10 : Value).ownBlock) v2 wH)∧ak (Kd.R (Kd.int .i64) 3 w' w.heap.size (fun k_=>(w.heap.size ≤ k_)) v10 gH)∧ak (Below w.heap.size w w'))
 case atStart=>exact ⟨(l2),(a3),(([] : List Int)),RF,H',⟨Nat.le_refl _⟩,⟨by (with_reducible repeat (first|apply Kd.jm|apply Kd.jo|apply Kd.fU));exact Kd.dz HO2.out (fun _ hk=>⟨hk,(by simp [Value.ownBlock])⟩)⟩,⟨by first|exact Kd.om _ _ _ _ _|exact Kd.qz _ _ _ _ _|exact Kd.pE _ _ _ _ _|exact Kd.qA _ _ _ _ _|exact Kd.qB _ _ _ _ _⟩,⟨BB⟩⟩
 case round =>
  clear H';try clear c1
  try clear c2
  try clear p2
  obtain ⟨wH,dO,gH,rfl,HA,HK1,iM,um,HB⟩:=hrel;cases gk with
  | zero=>exact absurd HA.out (by simp [d9.l0])
  | succ k1 =>
   have H:=HA.out;clear HA;simp only [d9.l0] at H;have HC5:=AM H;clear H;go_upto_region 2 with (fail)
   go_cut [21] (fun v21 wc=>∃ (kq : Nat) (WK : Bool),v21 = .bool WK∧ak (d9.j1 kq l0 l1 wH dO gH WK = some (r1,r2))∧ak (kq ≤ k1)∧ak (Kd.V (Kd.int .i64) 3 wc w.heap.size (fun k_=>(P2_ k_ ∨ w.heap.size ≤ k_)∧some k_≠(u10 : Value).ownBlock) u2 wH)∧ak (Kd.R (Kd.int .i64) 3 wc w.heap.size (fun k_=>(w.heap.size ≤ k_)) u10 gH)∧ak (Below w.heap.size w wc))
   case first =>
    have H:=HC5.out;clear HC5;by_cases c6 : dO ≥ 0
    ·rw [if_pos c6] at H;have iA:=DT c6;clear c6
     (first|rw [iA]|(simp only [dJ,eX];rw [iA])|skip);have H':=AM H;clear H;obtain ⟨Ao7,co7,eo7⟩:=Kd.bG um.out;subst eo7;go_wp2;go_meet
     case rel=>exact ⟨_,(decide ((gH.length : Int) ≤ (l0.length : Int))),RF,H',⟨by have:=HK1.out;first|omega|exact Nat.le_refl _⟩,⟨KV iM⟩,⟨KR um⟩,⟨BB⟩⟩
    ·rw [if_neg c6] at H;have iA:=DF c6;clear c6
     (first|rw [iA]|(simp only [dJ,eX];rw [iA])|skip);have H':=AM H;clear H;go_wp2;go_meet
     case rel=>exact ⟨_,(false),RF,H',⟨by have:=HK1.out;first|omega|exact Nat.le_refl _⟩,⟨KV iM⟩,⟨KR um⟩,⟨BB⟩⟩
   case rest =>
    clear HC5;try clear c1
    try clear c2
    try clear p2
    try clear c5
    try clear c6
    try clear iA
    try clear p6
    try clear p2
    obtain ⟨kq,WK,rfl,HA,HJ4,iM,um,HB⟩:=hcut;cases kq with
    | zero=>exact absurd HA.out (by simp [d9.j1])
    | succ kj4 =>
     have H:=HA.out;clear HA;simp only [d9.j1] at H;by_cases c8 : WK = true
     ·subst c8;replace H:=IP H;replace H:=IC H;obtain ⟨c9,H⟩:=H;have X7:=AM c9;clear c9;obtain ⟨EF,acz⟩ : ∃ y_ : List Int,y_ = (gH ++ [dO]):=⟨_,rfl⟩;replace H : (if 0 ≤ dO then (if dO < (l0.length : Int) then ((eT.f kj4 l1 (ah l0 dO)).bind fun TS=>(if TS = true then (some (EF,wH)) else ((fD.f kj4 l1 (ah l0 dO)).bind fun qR=>(d9.l1 kj4 l0 l1 wH dO EF qR (qR.length : Int) 0)))) else (none)) else (none)) = some (r1,r2):=HY H acz;have akX:=AM acz;clear acz;replace H:=IC H;obtain ⟨c10,H⟩:=H;have mE:=DT c10;clear c10;replace H:=IC H;obtain ⟨c11,H⟩:=H;have qK:=DT c11;clear c11;replace H:=EA H;obtain ⟨TS,A12,H⟩:=H;by_cases c13 : TS = true
      ·subst c13;replace H:=IP H;simp only [Option.some.injEq,Prod.mk.injEq] at H;obtain ⟨rfl,rfl⟩:=H;go_wp2_with (first|((with_reducible refine pW (b:=.append) (xs:=#[.tmp 22,.tmp 24]) rfl ?_);(try (refine ag4 (by rfl) ?_;dsimp only));at_builtin;refine Kd.qX (Kd.int .i64) (w0:=w) w.heap.size rfl (.tmp 22) (.tmp 24) 24 3 (.int .i64 0) 8 rfl Try.underlying24 info3 rfl (by decide) (by omega) u10 gH dO [.int .i64 dO] (fun k_=>(w.heap.size ≤ k_)) (fun _=>False) rfl rfl ?aP (fun _ hk=>hk.elim) ?aF ?aO ?aB ?aS ?aL ?_;(case aP=>exact rfl);(case aB=>exact BB);(case aF=>exact (fun k_ hk=>(Nat.le_trans (BZ BB) hk)));(case aO=>exact (KR um));(case aS=>exact (BZ BB));(case aL=>have:=X7.out;omega);intro X8 w14 ho hb hg hat;rw [← akX.out] at ho;replace iM:=AM (Kd.P5 (ok:=(fun k_=>(P2_ k_ ∨ w.heap.size ≤ k_))) (KV iM) hg hat);replace HB:=AM hb;have Oa:=AM ho;clear um;clear ho hb hg hat;have GR : 0 ≤ (dO : Int):=OD AS;have GU : dO < (l0.length : Int):=OD AS;obtain ⟨akY,arQ,arR,aeJ,Iz,MU,Qm⟩:=gT HR0.out dO GR GU;cases aeJ;replace Iz:=LC Iz;have Z5:=AM Qm;have Z6:=AM MU;clear Qm MU;replace GR:=ET GR;replace GU:=ET GU)|(refine GC 27 ?_;refine GM (some 31) Try.func27 (eT.calls kj4 _ _ l1 _ _ (ah l0 dO) true _ (CW (Kd.aQ HR1.out HB.out)) HC1.out (CW (Kd.aQ Z5.out HB.out)) Z6.out A12.out) ?_;rintro e w' ⟨rfl,⟨nd,rfl⟩⟩;refine ⟨_,rfl,?_⟩));go_ret2;exact ⟨_,_,RE,KR Oa,by (with_reducible repeat (first|apply Kd.jm|apply Kd.jo|apply Kd.fU));exact iM.out,BB⟩
      ·replace c13:=NF c13;subst c13;replace H:=IN H;replace H:=EA H;obtain ⟨qR,A15,H⟩:=H;have H':=AM H;clear H;go_wp2_with (first|((with_reducible refine pW (b:=.append) (xs:=#[.tmp 22,.tmp 24]) rfl ?_);(try (refine ag4 (by rfl) ?_;dsimp only));at_builtin;refine Kd.qX (Kd.int .i64) (w0:=w) w.heap.size rfl (.tmp 22) (.tmp 24) 24 3 (.int .i64 0) 8 rfl Try.underlying24 info3 rfl (by decide) (by omega) u10 gH dO [.int .i64 dO] (fun k_=>(w.heap.size ≤ k_)) (fun _=>False) rfl rfl ?aP (fun _ hk=>hk.elim) ?aF ?aO ?aB ?aS ?aL ?_;(case aP=>exact rfl);(case aB=>exact BB);(case aF=>exact (fun k_ hk=>(Nat.le_trans (BZ BB) hk)));(case aO=>exact (KR um));(case aS=>exact (BZ BB));(case aL=>have:=X7.out;omega);intro X8 w16 ho hb hg hat;rw [← akX.out] at ho;replace iM:=AM (Kd.P5 (ok:=(fun k_=>(P2_ k_ ∨ w.heap.size ≤ k_))) (KV iM) hg hat);replace HB:=AM hb;have Oa:=AM ho;clear um;clear ho hb hg hat;have GR : 0 ≤ (dO : Int):=OD AS;have GU : dO < (l0.length : Int):=OD AS;obtain ⟨akY,arQ,arR,aeJ,Iz,MU,Qm⟩:=gT HR0.out dO GR GU;cases aeJ;replace Iz:=LC Iz;have Z5:=AM Qm;have Z6:=AM MU;clear Qm MU;replace GR:=ET GR;replace GU:=ET GU)|(refine GC 27 ?_;refine GM (some 31) Try.func27 (eT.calls kj4 _ _ l1 _ _ (ah l0 dO) false _ (CW (Kd.aQ HR1.out HB.out)) HC1.out (CW (Kd.aQ Z5.out HB.out)) Z6.out A12.out) ?_;rintro e w' ⟨rfl,⟨nd,rfl⟩⟩;refine ⟨_,rfl,?_⟩;have X9 : 0 ≤ (dO : Int):=OD AS;have Ya : dO < (l0.length : Int):=OD AS;obtain ⟨atW,aBq,aBr,axe,VE,ais,ait⟩:=gT HR0.out dO X9 Ya;obtain rfl : akY = atW:=(by injection axe);replace VE:=LC VE;have apR:=AM ait;have apS:=AM ais;clear ait ais;replace X9:=ET X9;replace Ya:=ET Ya;have ea_:=Option.some.inj (Iz.symm.trans VE);injection ea_ with ea_ en_ ec_;subst ea_;subst ec_;clear en_)|(refine GC 45 ?_;refine GM (some 37) Try.func45 (fD.calls kj4 _ _ l1 _ _ (ah l0 dO) qR _ (CW (Kd.aQ HR1.out BB)) HC1.out (CW (Kd.aQ apR.out BB)) apS.out A15.out) ?_;rintro e w17 ⟨aEY,rfl,ho0,hb⟩;refine ⟨_,rfl,?_⟩;replace iM:=AM (Kd.zP (KV iM) (Kd.sN ho0) hb);have akZ:=AM (Kd.jG (Kd.oJ (Kd.abd (M:=fun k_=>(w.heap.size ≤ k_)) ho0 (BZ BB) (fun k_ h_=>h_)) (Kd.bJ (KR Oa))) (BZ BB));replace Oa:=RB Oa hb;replace HB:=HS hb;try clear hb ho0;obtain ⟨GV,Df,Bq⟩:=Kd.jC akZ.out;subst Bq));go_loopg [2,39] kj4 (fun kq v2 v39 w'=>∃ (GX : List Int) (rU : Int),v39 = .int .i64 rU∧ak (d9.l1 kq l0 l1 GX dO EF qR (qR.length : Int) rU = some (r1,r2))∧ak (kq ≤ kj4)∧ak (Kd.V (Kd.int .i64) 3 w' w.heap.size (fun k_=>(P2_ k_ ∨ w.heap.size ≤ k_)∧some k_≠(X8 : Value).ownBlock∧some k_≠((.slice GV qR.length Df) : Value).ownBlock) v2 GX)∧ak (Kd.R (Kd.int .i64) 3 w' w.heap.size (fun k_=>(w.heap.size ≤ k_)) X8 EF)∧ak (Kd.S (Kd.slice 3 (Kd.int .i64)) 24 w' w.heap.size (fun k_=>(w.heap.size ≤ k_)∧some k_≠(X8 : Value).ownBlock) (.slice GV qR.length Df) qR)∧ak (Below w.heap.size w w'))
       case atStart=>exact ⟨(wH),(0),RF,H',⟨Nat.le_refl _⟩,⟨by (with_reducible repeat (first|apply Kd.jm|apply Kd.jo|apply Kd.fU));exact Kd.dz iM.out (fun _ hk=>⟨hk.1.1,⟨hk.1.2,hk.2⟩⟩)⟩,⟨KR Oa⟩,⟨by (with_reducible repeat (first|apply Kd.fK|apply Kd.fM|apply Kd.dB));exact Kd.dx akZ.out (fun _ hk=>⟨hk.1.1,hk.2⟩)⟩,⟨BB⟩⟩
       case round =>
        clear H';try clear c1
        try clear c2
        try clear p2
        try clear c4
        try clear c5
        try clear p5
        try clear q5
        try clear hx5
        try clear c6
        try clear iA
        try clear p6
        try clear c8
        try clear c9
        try clear c10
        try clear mE
        try clear c11
        try clear qK
        try clear c13
        try clear Iz
        try clear VE
        try clear p2
        try clear GR
        try clear X9
        try clear p6
        try clear GU
        try clear Ya
        obtain ⟨GX,rU,rfl,HA,HK3,iM,um,Ap,HB⟩:=hrel;cases gk with
        | zero=>exact absurd HA.out (by simp [d9.l1])
        | succ k3 =>
         have H:=HA.out;clear HA;simp only [d9.l1] at H;by_cases c19 : rU < (qR.length : Int)
         ·rw [if_pos c19] at H;have D8:=DT c19;clear c19;replace H:=IC H;obtain ⟨c20,H⟩:=H;have D9:=DT c20;clear c20;replace H:=IC H;obtain ⟨c21,H⟩:=H;have F7:=DT c21;clear c21;replace H:=EA H;obtain ⟨aeI,A22,H⟩:=H;by_cases c23 : aeI = true
          ·subst c23;replace H:=IP H;have H':=AM H;clear H;have EG : 0 ≤ (rU : Int):=OD AS;have EH : rU < (qR.length : Int):=OD AS;obtain ⟨atX,arS,arT,aeK,Z7,Qn,Qo⟩:=gT (Kd.bW Ap.out).2.2 rU EG EH;cases aeK;obtain ⟨atY,abe,abf,Rx⟩:=Kd.ny Ap.out [] rU EG (by first|exact EH|exact OD AS|(have e_:=(Kd.bW Ap.out).1;omega));obtain ⟨apT,rfl,IB⟩:=abf;have zS:=Rx 0 _ rfl;rw [Nat.add_zero,show ((Kd.slice 3 (Kd.int .i64))).sz = 1 from rfl,Nat.mul_one] at zS;replace zS:=Option.some.inj (zS.symm.trans Z7);rw [zS] at IB;have VF:=AM (show Kd.R (Kd.int .i64) 3 _ _ _ _ (ah qR rU) from IB);clear zS IB;clear Rx abe;have MV:=AM Qo;have VG:=AM Qn;clear Qo Qn;replace EG:=ET EG;replace EH:=ET EH;obtain ⟨C9,Bf,aeh⟩:=Kd.qy iM.out;subst aeh;go_wp2_with (first|(refine GC 33 ?_;refine GM (some 45) Try.func33 (jk.calls k3 _ _ (ah qR rU) _ _ GX true _ (CX MV) VG.out (CW (Kd.gN iM.out).2.2) ((Kd.gN iM.out).2.1) A22.out) ?_;rintro e w' ⟨rfl,⟨nd,rfl⟩⟩;refine ⟨_,rfl,?_⟩));go_roundg k3
           case measure=>have:=HK1.out;have:=HJ4.out;have:=HK3.out;omega
           case rel=>exact ⟨(GX),(wrap64 (rU + 1)),RF,H',⟨by have:=HK1.out;have:=HJ4.out;have:=HK3.out;omega⟩,⟨KV iM⟩,⟨KR um⟩,⟨KS Ap⟩,⟨BB⟩⟩
          ·replace c23:=NF c23;subst c23;replace H:=IN H;replace H:=EA H;obtain ⟨X5,A25,H⟩:=H;have H':=AM H;clear H;have EG : 0 ≤ (rU : Int):=OD AS;have EH : rU < (qR.length : Int):=OD AS;obtain ⟨atX,arS,arT,aeK,Z7,Qn,Qo⟩:=gT (Kd.bW Ap.out).2.2 rU EG EH;cases aeK;obtain ⟨atY,abe,abf,Rx⟩:=Kd.ny Ap.out [] rU EG (by first|exact EH|exact OD AS|(have e_:=(Kd.bW Ap.out).1;omega));obtain ⟨apT,rfl,IB⟩:=abf;have zS:=Rx 0 _ rfl;rw [Nat.add_zero,show ((Kd.slice 3 (Kd.int .i64))).sz = 1 from rfl,Nat.mul_one] at zS;replace zS:=Option.some.inj (zS.symm.trans Z7);rw [zS] at IB;have VF:=AM (show Kd.R (Kd.int .i64) 3 _ _ _ _ (ah qR rU) from IB);clear zS IB;clear Rx abe;have MV:=AM Qo;have VG:=AM Qn;clear Qo Qn;replace EG:=ET EG;replace EH:=ET EH;obtain ⟨Gy,yN,wG⟩:=Kd.qy iM.out;subst wG;go_wp2_with (first|(refine GC 33 ?_;refine GM (some 45) Try.func33 (jk.calls k3 _ _ (ah qR rU) _ _ GX false _ (CX MV) VG.out (CW (Kd.gN iM.out).2.2) ((Kd.gN iM.out).2.1) A22.out) ?_;rintro e w' ⟨rfl,⟨nd,rfl⟩⟩;refine ⟨_,rfl,?_⟩)|(refine GC 56 ?_;refine GM (some 52) Try.func56 (ig.calls k3 _ _ l0 _ _ (ah qR rU) dO X5 _ (CW (Kd.aQ HR0.out BB)) HC0.out (CX MV) VG.out A25.out) ?_;rintro e w27 ⟨rfl,hb⟩;refine ⟨_,rfl,?_⟩;replace iM:=VB iM hb;replace um:=RB um hb;replace Ap:=SB Ap hb;replace VF:=RB VF hb;replace MV:=AM (Kd.aQ (CX MV) hb);replace HB:=HS hb;try clear hb));go_roundg k3
           case measure=>have:=HK1.out;have:=HJ4.out;have:=HK3.out;omega
           case rel=>exact ⟨(ah qR rU),(X5),(EF),RF,H',⟨by have:=HK1.out;have:=HJ4.out;have:=HK3.out;omega⟩,⟨Kd.dz (Kd.R_V (KR VF)) (fun k_ hk=>by first|exact ⟨.inr hk.1.1,hk.1.2⟩|exact .inr hk.1.1)⟩,⟨KR um⟩,⟨BB⟩⟩
         ·rw [if_neg c19] at H;have D8:=DF c19;try (have atZ:=D8;rw [MU] at atZ)
          clear c19;replace H:=EA H;obtain ⟨X6,A28,H⟩:=H;have H':=AM H;clear H;obtain ⟨aei,GH,Da⟩:=Kd.qy iM.out;subst Da;go_wp2_with (first|(refine GC 56 ?_;refine GM (some 52) Try.func56 (ig.calls k3 _ _ l0 _ _ GX dO X6 _ (CW (Kd.aQ HR0.out HB.out)) HC0.out (CW (Kd.gN iM.out).2.2) ((Kd.gN iM.out).2.1) A28.out) ?_;rintro e w30 ⟨rfl,hb⟩;refine ⟨_,rfl,?_⟩;replace iM:=VB iM hb;replace um:=RB um hb;replace Ap:=SB Ap hb;replace HB:=HS hb;try clear hb));go_roundg k3
          case measure=>have:=HK1.out;have:=HJ4.out;have:=HK3.out;omega
          case rel=>exact ⟨(GX),(X6),(EF),RF,H',⟨by have:=HK1.out;have:=HJ4.out;have:=HK3.out;omega⟩,⟨by (with_reducible repeat (first|apply Kd.jm|apply Kd.jo|apply Kd.fU));exact Kd.dz iM.out (fun _ hk=>⟨hk.1,hk.2.1⟩)⟩,⟨KR um⟩,⟨BB⟩⟩
     ·replace c8:=NF c8;subst c8;replace H:=IN H;simp only [Option.some.injEq,Prod.mk.injEq] at H;obtain ⟨rfl,rfl⟩:=H;go_wp2;go_ret2;exact ⟨_,_,RE,KR um,by (with_reducible repeat (first|apply Kd.jm|apply Kd.jo|apply Kd.fU));exact iM.out,BB⟩

end Go.Proofs.Ythaonijhfeemfaa.dL
