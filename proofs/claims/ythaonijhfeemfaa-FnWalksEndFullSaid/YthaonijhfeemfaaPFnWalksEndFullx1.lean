-- Written by a program of this session (wip/tools/pp.sh) out of the translation; Lean checks it.
import Derived.Test.YthaonijhfeemfaaPFnWalksEndFullx0
namespace Go.Proofs.Ythaonijhfeemfaa.dL
open Go.RowKit Go.Proofs.YthaonijhfeemfaaOwn Go.Proofs.YthaonijhfeemfaaW.bU Go.Proofs.YthaonijhfeemfaaW.fB Go.Proofs.YthaonijhfeemfaaW.iw
attribute [local go_sem] nG nH nK nL nD nE nI nJ   -- for this text's walks alone
set_option linter.unusedVariables false
set_option maxHeartbeats 8000000
set_option maxRecDepth 100000
set_option linter.unusedSimpArgs false

def Dr.f (l0 : List Int) (l1 : List Int) : Option (Bool):=if (l0.length : Int) > 1048576 then (some true) else (some (decide ((l1.length : Int) > (wrap64 (1048576 - (l0.length : Int))))))
theorem Dr.calls (A0 : Option Addr) (c0 : Nat) (l0 : List Int) (A1 : Option Addr) (c1 : Nat) (l1 : List Int) (r : Bool) (w : World) (hr0 : Kd.C (Kd.int .u8) w A0 l0.length l0) (hc0 : l0.length ≤ c0) (hr1 : Kd.C (Kd.int .u8) w A1 l1.length l1) (hc1 : l1.length ≤ c1) (h : Dr.f l0 l1 = some r) :
  Calls Try.prog 4 #[.slice A0 l0.length c0,.slice A1 l1.length c1] w fun e w'=>e = .returned (.bool r)∧dw w w':=by
 have HR0:=AM hr0;have HC0:=AM hc0;clear hr0 hc0;have HR1:=AM hr1;have HC1:=AM hc1;clear hr1 hc1;have H : (if (l0.length : Int) > 1048576 then (some true) else (some (decide ((l1.length : Int) > (wrap64 (1048576 - (l0.length : Int))))))) = some r:=h;clear h;by_cases c3 : (l0.length : Int) > 1048576
 ·rw [if_pos c3] at H;have iQ:=DT c3;have zC : decide (1048576 < l0.length) = true:=DT (by omega);clear c3;obtain rfl:=Option.some.inj H;go_enter Try.func4,Try.ntmps4;go_wp2;go_ret;exact ⟨RF,DR⟩
 ·rw [if_neg c3] at H;have iQ:=DF c3;have zC : decide (1048576 < l0.length) = false:=DF (by omega);clear c3;obtain rfl:=Option.some.inj H;go_enter Try.func4,Try.ntmps4;go_wp2;go_ret;exact ⟨RF,DR⟩

def yY.f (a0 : Int) (l1 : List Int) : Option (Int):=if 0 < (l1.length : Int) then (if 2 < (l1.length : Int) then (some (wrap64 ((wrap64 (Int.tdiv (wrap64 ((wrap64 (a0 - (rd l1 0))) * (wrap64 ((wrap64 (a0 - (rd l1 0))) + 1)))) 2)) + (rd l1 2)))) else (none)) else (none)
theorem yY.calls (a0 : Int) (A1 : Option Addr) (c1 : Nat) (l1 : List Int) (r : Int) (w : World) (hr1 : Kd.C (Kd.int .i64) w A1 l1.length l1) (hc1 : l1.length ≤ c1) (h : yY.f a0 l1 = some r) :
  Calls Try.prog 87 #[.int .i64 a0,.slice A1 l1.length c1] w fun e w'=>e = .returned (.int .i64 r)∧dw w w':=by
 have HR1:=AM hr1;have HC1:=AM hc1;clear hr1 hc1;have H : (if 0 < (l1.length : Int) then (if 2 < (l1.length : Int) then (some (wrap64 ((wrap64 (Int.tdiv (wrap64 ((wrap64 (a0 - (rd l1 0))) * (wrap64 ((wrap64 (a0 - (rd l1 0))) + 1)))) 2)) + (rd l1 2)))) else (none)) else (none)) = some r:=h;clear h;replace H:=IC H;obtain ⟨c3,H⟩:=H;have iQ:=DT c3;have zC : decide (0 < l1.length) = true:=DT (by omega);clear c3;replace H:=IC H;obtain ⟨c4,H⟩:=H;have iR:=DT c4;have JY : decide (2 < l1.length) = true:=DT (by omega);clear c4;obtain rfl:=Option.some.inj H;have adU : 0 ≤ (0 : Int):=(by omega);have adV : 0 < (l1.length : Int):=OD AS;obtain ⟨asV,awE,ah3⟩:=Kd.aN HR1.out 0 adU adV;cases awE;have aCk : (0 < l1.length) = True:=ET (by omega)
 (try rw [show ((0 : Int)).toNat = 0 from rfl] at ah3)
 (try rw [Addr.add_zero'] at ah3);replace adU:=ET adU;replace adV:=ET adV;have adW : 0 ≤ (2 : Int):=(by omega);have adX : 2 < (l1.length : Int):=OD AS;obtain ⟨asW,awF,ah4⟩:=Kd.aN HR1.out 2 adW adX;obtain rfl : asV = asW:=(by injection awF)
 (try simp only [show (2 : Int).toNat = 2 from rfl,Nat.reduceMul,Nat.reduceEqDiff,Go.Addr.add,↓reduceIte] at ah4);have aCl : (2 < l1.length) = True:=ET (by omega)
 (try rw [show ((2 : Int)).toNat = 2 from rfl] at ah4);replace adW:=ET adW;replace adX:=ET adX;go_enter Try.func87,Try.ntmps87;go_wp2;go_ret;exact ⟨RF,DR⟩

mutual
def gB.l0 : Nat→Int→List Int→Int→Option (List Int)
 | 0,_,_,_=>none
 | k + 1,x0,x3,x4=>if x4 < x0 then ((yY.f x0 (([wrap64 (x0 - x4),x4,0] : List Int))).bind fun Gr=>(if x3.length < 17592186044416 then (gB.l0 k x0 (x3 ++ [Gr]) (wrap64 (x4 + 1))) else (none))) else (gB.l1 k x0 x3 0)
def gB.l1 : Nat→Int→List Int→Int→Option (List Int)
 | 0,_,_,_=>none
 | k + 1,x0,x3,x5=>if x5 < x0 then ((yY.f x0 (([0,wrap64 (x0 - x5),x5] : List Int))).bind fun Gs=>(if x3.length < 17592186044416 then (gB.l1 k x0 (x3 ++ [Gs]) (wrap64 (x5 + 1))) else (none))) else (gB.l2 k x0 x3 0)
def gB.l2 : Nat→Int→List Int→Int→Option (List Int)
 | 0,_,_,_=>none
 | k + 1,x0,x3,x6=>if x6 < x0 then ((yY.f x0 (([x6,0,wrap64 (x0 - x6)] : List Int))).bind fun Gt=>(if x3.length < 17592186044416 then (gB.l2 k x0 (x3 ++ [Gt]) (wrap64 (x6 + 1))) else (none))) else (some x3)
end
def gB.f (k : Nat) (a0 : Int) : Option (List Int):=gB.l0 k a0 ([] : List Int) 0
theorem gB.bC : ∀ k,(∀ y0 y1 y2,LeO (gB.l0 k y0 y1 y2) (gB.l0 (k + 1) y0 y1 y2))∧(∀ y0 y1 y2,LeO (gB.l1 k y0 y1 y2) (gB.l1 (k + 1) y0 y1 y2))∧(∀ y0 y1 y2,LeO (gB.l2 k y0 y1 y2) (gB.l2 (k + 1) y0 y1 y2))
 | 0=>⟨fun _ _ _=>LZ,fun _ _ _=>LZ,fun _ _ _=>LZ⟩
 | k + 1=>by
  obtain ⟨ih0,ih1,ih2⟩:=gB.bC k
  refine ⟨?_,?_,?_⟩ <;> intros
  all_goals (first|unfold gB.l0|unfold gB.l1|unfold gB.l2)
  all_goals exact MO
theorem gB.mono : ∀ a0 k,LeO (gB.f k a0) (gB.f (k + 1) a0):=by
 intro a0 k;obtain ⟨ih0,ih1,ih2⟩:=gB.bC k;unfold gB.f
 exact MO
theorem gB.calls (k : Nat) (a0 : Int) (r : List Int) (w : World) (h : gB.f k a0 = some r) :
  Calls Try.prog 63 #[.int .i64 a0] w fun e w'=>∃ v0_ : Value,e = .returned (v0_)∧Kd.R (Kd.int .i64) 3 w' w.heap.size (fun _=>True) v0_ r∧Below w.heap.size w w':=by
 have HB:=HRf w;have H : (gB.l0 k a0 ([] : List Int) 0) = some r:=h;clear h;have H':=AM H;clear H;go_enter Try.func63,Try.ntmps63;go_wp2;go_loopg [3,4] k (fun kq v3 v4 w'=>∃ (dO : List Int) (fJ : Int),v4 = .int .i64 fJ∧ak (gB.l0 kq a0 dO fJ = some r)∧ak (kq ≤ k)∧ak (Kd.R (Kd.int .i64) 3 w' w.heap.size (fun _=>True) v3 dO)∧ak (Below w.heap.size w w'))
 case atStart=>exact ⟨(([] : List Int)),(0),RF,H',⟨Nat.le_refl _⟩,⟨by first|exact Kd.om _ _ _ _ _|exact Kd.qz _ _ _ _ _|exact Kd.pE _ _ _ _ _|exact Kd.qA _ _ _ _ _|exact Kd.qB _ _ _ _ _⟩,⟨BB⟩⟩
 case round =>
  clear H';obtain ⟨dO,fJ,rfl,HA,HK1,bB,HB⟩:=hrel;cases gk with
  | zero=>exact absurd HA.out (by simp [gB.l0])
  | succ k1 =>
   have H:=HA.out;clear HA;simp only [gB.l0] at H;by_cases c2 : fJ < a0
   ·rw [if_pos c2] at H;have Tm:=DT c2;clear c2;obtain ⟨adY,abU⟩ : ∃ y_ : List Int,y_ = (([wrap64 (a0 - fJ),fJ,0] : List Int)):=⟨_,rfl⟩;replace H : ((yY.f a0 adY).bind fun Gr=>(if dO.length < 17592186044416 then (gB.l0 k1 a0 (dO ++ [Gr]) (wrap64 (fJ + 1))) else (none))) = some r:=HY H abU;have aku:=AM abU;clear abU;replace H:=EA H;obtain ⟨Gr,A3,H⟩:=H;replace H:=IC H;obtain ⟨c4,H⟩:=H;have awG:=AM c4;clear c4;obtain ⟨al5,abV⟩ : ∃ y_ : List Int,y_ = (dO ++ [Gr]):=⟨_,rfl⟩;replace H : (gB.l0 k1 a0 al5 (wrap64 (fJ + 1))) = some r:=HY H abV;have asX:=AM abV;clear abV;have H':=AM H;clear H;go_wp2_with (first|((with_reducible refine dG (N:=18) rfl ?_);refine Kd.pF (Kd.int .i64) _ 3 ?hg (N:=18) ?hd (xs:=([wrap64 (a0 - fJ),fJ,0] : List Int)) (inner:=[.int .i64 (wrap64 (a0 - fJ)),.int .i64 fJ,.int .i64 0]) (ok:=fun _=>True) (okp:=fun _=>True) ?hr ?hp (fun _ hk=>hk) trivial (Below.refl _ _) (Nat.le_refl _) (by simp) ?_;(case hd=>rfl);(case hg=>rfl);(case hr=>exact GS);(case hp=>exact (aT.one (show Kd.M (Kd.int .i64) _ _ _ (wrap64 (a0 - fJ)) [.int .i64 (wrap64 (a0 - fJ))] from rfl) (aT.one (show Kd.M (Kd.int .i64) _ _ _ fJ [.int .i64 fJ] from rfl) (aT.one (show Kd.M (Kd.int .i64) _ _ _ 0 [.int .i64 0] from rfl) (aT.none _ _)))));intro aEB w5 ho6 hb hg_ eY;clear hg_ eY;(first|rw [← aku.out] at ho6|(simp only [Int.reduceToNat] at ho6;rw [← aku.out] at ho6));have NT:=AM (Kd.bD (Kd.dM ho6 (Kd.bJ (KR bB))) (BZ BB));replace bB:=RO bB ho6 hb;replace HB:=HS hb;clear hb ho6;obtain ⟨Ao7,co7,eo7⟩:=Kd.bG NT.out;subst eo7)|(refine GC 87 ?_;refine GM (some 19) Try.func87 (yY.calls a0 _ _ adY Gr _ (CW (Kd.aA NT.out).2.2) ((Kd.aA NT.out).2.1) A3.out) ?_;rintro e w' ⟨rfl,⟨nd,rfl⟩⟩;refine ⟨_,rfl,?_⟩)|((with_reducible refine pW (b:=.append) (xs:=#[.tmp 12,.tmp 20]) rfl ?_);at_builtin;refine Kd.qX (Kd.int .i64) (w0:=w) w.heap.size rfl (.tmp 12) (.tmp 20) 24 3 (.int .i64 0) 8 rfl Try.underlying24 info3 rfl (by decide) (by omega) u3 dO Gr [.int .i64 Gr] (fun k_=>some k_≠(.slice Ao7 adY.length co7 : Value).ownBlock) (fun _=>False) rfl rfl ?aP (fun _ hk=>hk.elim) ?aF ?aO ?aB ?aS ?aL ?_;(case aP=>exact rfl);(case aB=>exact BB);(case aF=>exact (fun k_ hk=>Kd.fresh' (Kd.bJ (KR NT)) k_ hk));(case aO=>exact (by (with_reducible repeat (first|apply Kd.dh|apply Kd.dn|apply Kd.bF));exact Kd.aM bB.out (fun _ hk=>hk.2)));(case aS=>exact (BZ BB));(case aL=>have:=awG.out;omega);intro aEC w8 ho hb hg hat;rw [← asX.out] at ho;replace NT:=AM (Kd.Cu (ok:=(fun _=>True)) (KR NT) hg hat);replace HB:=AM hb;have asY:=AM ho;clear bB;clear ho hb hg hat));go_roundg k1
    case measure=>have:=HK1.out;omega
    case rel=>exact ⟨(al5),(wrap64 (fJ + 1)),RF,H',⟨by have:=HK1.out;omega⟩,⟨by (with_reducible repeat (first|apply Kd.dh|apply Kd.dn|apply Kd.bF));exact Kd.aM asY.out (fun _ hk=>trivial)⟩,⟨BB⟩⟩
   ·rw [if_neg c2] at H;have Tm:=DF c2;clear c2;have H':=AM H;clear H;go_wp2;go_loopg [3,5] k1 (fun kq v3 v5 w'=>∃ (nT : List Int) (eH : Int),v5 = .int .i64 eH∧ak (gB.l1 kq a0 nT eH = some r)∧ak (kq ≤ k1)∧ak (Kd.R (Kd.int .i64) 3 w' w.heap.size (fun _=>True) v3 nT)∧ak (Below w.heap.size w w'))
    case atStart=>exact ⟨(dO),(0),RF,H',⟨Nat.le_refl _⟩,⟨KR bB⟩,⟨BB⟩⟩
    case round =>
     clear H';try clear c2
     try clear Tm
     try clear p2
     try clear c4
     try clear c6
     try clear p6
     try clear c8
     obtain ⟨nT,eH,rfl,HA,HK2,bB,HB⟩:=hrel;cases gk with
     | zero=>exact absurd HA.out (by simp [gB.l1])
     | succ k2 =>
      have H:=HA.out;clear HA;simp only [gB.l1] at H;by_cases c9 : eH < a0
      ·rw [if_pos c9] at H;have wD:=DT c9;clear c9;obtain ⟨adZ,abW⟩ : ∃ y_ : List Int,y_ = (([0,wrap64 (a0 - eH),eH] : List Int)):=⟨_,rfl⟩;replace H : ((yY.f a0 adZ).bind fun Gs=>(if nT.length < 17592186044416 then (gB.l1 k2 a0 (nT ++ [Gs]) (wrap64 (eH + 1))) else (none))) = some r:=HY H abW;have akv:=AM abW;clear abW;replace H:=EA H;obtain ⟨Gs,A10,H⟩:=H;replace H:=IC H;obtain ⟨c11,H⟩:=H;have RV:=AM c11;clear c11;obtain ⟨y114,hy114⟩ : ∃ y_ : List Int,y_ = (nT ++ [Gs]):=⟨_,rfl⟩;replace H : (gB.l1 k2 a0 y114 (wrap64 (eH + 1))) = some r:=HY H hy114;have asZ:=AM hy114;clear hy114;have H':=AM H;clear H;go_wp2_with (first|((with_reducible refine dG (N:=33) rfl ?_);refine Kd.pF (Kd.int .i64) _ 3 ?hg (N:=33) ?hd (xs:=([0,wrap64 (a0 - eH),eH] : List Int)) (inner:=[.int .i64 0,.int .i64 (wrap64 (a0 - eH)),.int .i64 eH]) (ok:=fun _=>True) (okp:=fun _=>True) ?hr ?hp (fun _ hk=>hk) trivial (Below.refl _ _) (Nat.le_refl _) (by simp) ?_;(case hd=>rfl);(case hg=>rfl);(case hr=>exact GS);(case hp=>exact (aT.one (show Kd.M (Kd.int .i64) _ _ _ 0 [.int .i64 0] from rfl) (aT.one (show Kd.M (Kd.int .i64) _ _ _ (wrap64 (a0 - eH)) [.int .i64 (wrap64 (a0 - eH))] from rfl) (aT.one (show Kd.M (Kd.int .i64) _ _ _ eH [.int .i64 eH] from rfl) (aT.none _ _)))));intro aED w12 OC hb hg_ eY;clear hg_ eY;(first|rw [← akv.out] at OC|(simp only [Int.reduceToNat] at OC;rw [← akv.out] at OC));have NU:=AM (Kd.bD (Kd.dM OC (Kd.bJ (KR bB))) (BZ BB));replace bB:=RO bB OC hb;replace HB:=HS hb;clear hb OC;obtain ⟨kR,jr,vw⟩:=Kd.bG NU.out;subst vw)|(refine GC 87 ?_;refine GM (some 34) Try.func87 (yY.calls a0 _ _ adZ Gs _ (CW (Kd.aA NU.out).2.2) ((Kd.aA NU.out).2.1) A10.out) ?_;rintro e w' ⟨rfl,⟨nd,rfl⟩⟩;refine ⟨_,rfl,?_⟩)|((with_reducible refine pW (b:=.append) (xs:=#[.tmp 27,.tmp 35]) rfl ?_);at_builtin;refine Kd.qX (Kd.int .i64) (w0:=w) w.heap.size rfl (.tmp 27) (.tmp 35) 24 3 (.int .i64 0) 8 rfl Try.underlying24 info3 rfl (by decide) (by omega) u3 nT Gs [.int .i64 Gs] (fun k_=>some k_≠(.slice kR adZ.length jr : Value).ownBlock) (fun _=>False) rfl rfl ?aP (fun _ hk=>hk.elim) ?aF ?aO ?aB ?aS ?aL ?_;(case aP=>exact rfl);(case aB=>exact BB);(case aF=>exact (fun k_ hk=>Kd.fresh' (Kd.bJ (KR NU)) k_ hk));(case aO=>exact (by (with_reducible repeat (first|apply Kd.dh|apply Kd.dn|apply Kd.bF));exact Kd.aM bB.out (fun _ hk=>hk.2)));(case aS=>exact (BZ BB));(case aL=>have:=RV.out;omega);intro aEE w15 ho hb hg hat;rw [← asZ.out] at ho;replace NU:=AM (Kd.Cu (ok:=(fun _=>True)) (KR NU) hg hat);replace HB:=AM hb;have as0:=AM ho;clear bB;clear ho hb hg hat));go_roundg k2
       case measure=>have:=HK1.out;have:=HK2.out;omega
       case rel=>exact ⟨(y114),(wrap64 (eH + 1)),RF,H',⟨by have:=HK1.out;have:=HK2.out;omega⟩,⟨by (with_reducible repeat (first|apply Kd.dh|apply Kd.dn|apply Kd.bF));exact Kd.aM as0.out (fun _ hk=>trivial)⟩,⟨BB⟩⟩
      ·rw [if_neg c9] at H;have wD:=DF c9;clear c9;have H':=AM H;clear H;go_wp2;go_loopg [3,6] k2 (fun kq v3 v6 w'=>∃ (lT : List Int) (jJ : Int),v6 = .int .i64 jJ∧ak (gB.l2 kq a0 lT jJ = some r)∧ak (kq ≤ k2)∧ak (Kd.R (Kd.int .i64) 3 w' w.heap.size (fun _=>True) v3 lT)∧ak (Below w.heap.size w w'))
       case atStart=>exact ⟨(nT),(0),RF,H',⟨Nat.le_refl _⟩,⟨KR bB⟩,⟨BB⟩⟩
       case round =>
        clear H';try clear c1
        try clear c2
        try clear Tm
        try clear p2
        try clear c4
        try clear c6
        try clear p6
        try clear c8
        try clear c9
        try clear wD
        try clear c11
        try clear p2
        try clear p6
        obtain ⟨lT,jJ,rfl,HA,HK3,bB,HB⟩:=hrel;cases gk with
        | zero=>exact absurd HA.out (by simp [gB.l2])
        | succ k3 =>
         have H:=HA.out;clear HA;simp only [gB.l2] at H;by_cases c16 : jJ < a0
         ·rw [if_pos c16] at H;have Al:=DT c16;clear c16;obtain ⟨ad1,abX⟩ : ∃ y_ : List Int,y_ = (([jJ,0,wrap64 (a0 - jJ)] : List Int)):=⟨_,rfl⟩;replace H : ((yY.f a0 ad1).bind fun Gt=>(if lT.length < 17592186044416 then (gB.l2 k3 a0 (lT ++ [Gt]) (wrap64 (jJ + 1))) else (none))) = some r:=HY H abX;have akw:=AM abX;clear abX;replace H:=EA H;obtain ⟨Gt,A17,H⟩:=H;replace H:=IC H;obtain ⟨c18,H⟩:=H;have as1:=AM c18;clear c18;obtain ⟨al6,abY⟩ : ∃ y_ : List Int,y_ = (lT ++ [Gt]):=⟨_,rfl⟩;replace H : (gB.l2 k3 a0 al6 (wrap64 (jJ + 1))) = some r:=HY H abY;have as2:=AM abY;clear abY;have H':=AM H;clear H;go_wp2_with (first|((with_reducible refine dG (N:=48) rfl ?_);refine Kd.pF (Kd.int .i64) _ 3 ?hg (N:=48) ?hd (xs:=([jJ,0,wrap64 (a0 - jJ)] : List Int)) (inner:=[.int .i64 jJ,.int .i64 0,.int .i64 (wrap64 (a0 - jJ))]) (ok:=fun _=>True) (okp:=fun _=>True) ?hr ?hp (fun _ hk=>hk) trivial (Below.refl _ _) (Nat.le_refl _) (by simp) ?_;(case hd=>rfl);(case hg=>rfl);(case hr=>exact GS);(case hp=>exact (aT.one (show Kd.M (Kd.int .i64) _ _ _ jJ [.int .i64 jJ] from rfl) (aT.one (show Kd.M (Kd.int .i64) _ _ _ 0 [.int .i64 0] from rfl) (aT.one (show Kd.M (Kd.int .i64) _ _ _ (wrap64 (a0 - jJ)) [.int .i64 (wrap64 (a0 - jJ))] from rfl) (aT.none _ _)))));intro aEF w19 OE hb hg_ eY;clear hg_ eY;(first|rw [← akw.out] at OE|(simp only [Int.reduceToNat] at OE;rw [← akw.out] at OE));have NV:=AM (Kd.bD (Kd.dM OE (Kd.bJ (KR bB))) (BZ BB));replace bB:=RO bB OE hb;replace HB:=HS hb;clear hb OE;obtain ⟨Ba,zD,yM⟩:=Kd.bG NV.out;subst yM)|(refine GC 87 ?_;refine GM (some 49) Try.func87 (yY.calls a0 _ _ ad1 Gt _ (CW (Kd.aA NV.out).2.2) ((Kd.aA NV.out).2.1) A17.out) ?_;rintro e w' ⟨rfl,⟨nd,rfl⟩⟩;refine ⟨_,rfl,?_⟩)|((with_reducible refine pW (b:=.append) (xs:=#[.tmp 42,.tmp 50]) rfl ?_);at_builtin;refine Kd.qX (Kd.int .i64) (w0:=w) w.heap.size rfl (.tmp 42) (.tmp 50) 24 3 (.int .i64 0) 8 rfl Try.underlying24 info3 rfl (by decide) (by omega) u3 lT Gt [.int .i64 Gt] (fun k_=>some k_≠(.slice Ba ad1.length zD : Value).ownBlock) (fun _=>False) rfl rfl ?aP (fun _ hk=>hk.elim) ?aF ?aO ?aB ?aS ?aL ?_;(case aP=>exact rfl);(case aB=>exact BB);(case aF=>exact (fun k_ hk=>Kd.fresh' (Kd.bJ (KR NV)) k_ hk));(case aO=>exact (by (with_reducible repeat (first|apply Kd.dh|apply Kd.dn|apply Kd.bF));exact Kd.aM bB.out (fun _ hk=>hk.2)));(case aS=>exact (BZ BB));(case aL=>have:=as1.out;omega);intro aEG w22 ho hb hg hat;rw [← as2.out] at ho;replace NV:=AM (Kd.Cu (ok:=(fun _=>True)) (KR NV) hg hat);replace HB:=AM hb;have as3:=AM ho;clear bB;clear ho hb hg hat));go_roundg k3
          case measure=>have:=HK1.out;have:=HK2.out;have:=HK3.out;omega
          case rel=>exact ⟨(al6),(wrap64 (jJ + 1)),RF,H',⟨by have:=HK1.out;have:=HK2.out;have:=HK3.out;omega⟩,⟨by (with_reducible repeat (first|apply Kd.dh|apply Kd.dn|apply Kd.bF));exact Kd.aM as3.out (fun _ hk=>trivial)⟩,⟨BB⟩⟩
         ·rw [if_neg c16] at H;have Al:=DF c16;clear c16;obtain rfl:=Option.some.inj H;go_wp2;go_ret;exact ⟨_,RE,KR bB,BB⟩

def yZ.f (l0 : List Int) (a1 : Int) (a2 : Int) : Option (Bool):=if 0 ≤ a1 then (if a1 < (l0.length : Int) then (if 0 ≤ a2 then (if a2 < (l0.length : Int) then (some ((wrap64 ((rd l0 a1) + (rd l0 a2))) == 1)) else (none)) else (none)) else (none)) else (none)
theorem yZ.calls (A0 : Option Addr) (c0 : Nat) (l0 : List Int) (a1 : Int) (a2 : Int) (r : Bool) (w : World) (hr0 : Kd.C (Kd.int .i64) w A0 l0.length l0) (hc0 : l0.length ≤ c0) (h : yZ.f l0 a1 a2 = some r) :
  Calls Try.prog 64 #[.slice A0 l0.length c0,.int .i64 a1,.int .i64 a2] w fun e w'=>e = .returned (.bool r)∧dw w w':=by
 have HR0:=AM hr0;have HC0:=AM hc0;clear hr0 hc0;have H : (if 0 ≤ a1 then (if a1 < (l0.length : Int) then (if 0 ≤ a2 then (if a2 < (l0.length : Int) then (some ((wrap64 ((rd l0 a1) + (rd l0 a2))) == 1)) else (none)) else (none)) else (none)) else (none)) = some r:=h;clear h;replace H:=IC H;obtain ⟨c4,H⟩:=H;have iR:=DT c4;clear c4;replace H:=IC H;obtain ⟨c5,H⟩:=H;have ko:=DT c5;clear c5;replace H:=IC H;obtain ⟨c6,H⟩:=H;have iA:=DT c6;clear c6;replace H:=IC H;obtain ⟨c7,H⟩:=H;have kS:=DT c7;clear c7;obtain rfl:=Option.some.inj H;have ad2 : 0 ≤ (a1 : Int):=OD AS;have ad3 : a1 < (l0.length : Int):=OD AS;obtain ⟨as4,awH,az3⟩:=Kd.aN HR0.out a1 ad2 ad3;cases awH;replace ad2:=ET ad2;replace ad3:=ET ad3;have ad4 : 0 ≤ (a2 : Int):=OD AS;have ad5 : a2 < (l0.length : Int):=OD AS;obtain ⟨as5,e125,az4⟩:=Kd.aN HR0.out a2 ad4 ad5;obtain rfl : as4 = as5:=(by injection e125);replace ad4:=ET ad4;replace ad5:=ET ad5;go_enter Try.func64,Try.ntmps64;go_wp2;repeat (go_quiet (fail);try go_wp2)
 go_ret;exact ⟨RF,DR⟩

def fu.l0 : Nat→List Int→List Int→List (List Int)→List Int→Int→Int→Option ((List (List Int)))
 | 0,_,_,_,_,_,_=>none
 | k + 1,x1,x5,x6,x12,x13,x14=>if x14 < x13 then (if 0 ≤ x14 then (if x14 < (x12.length : Int) then (if (x5.length : Int) = 0 then (none) else (if 0 ≤ (Int.tmod (wrap64 (x14 + 1)) (x5.length : Int)) then (if (Int.tmod (wrap64 (x14 + 1)) (x5.length : Int)) < (x5.length : Int) then ((yZ.f x1 (rd x12 x14) (rd x5 (Int.tmod (wrap64 (x14 + 1)) (x5.length : Int)))).bind fun t131=>(if t131 = true then (if x6.length < 5864062014805 then (fu.l0 k x1 x5 (x6 ++ [(([rd x12 x14,rd x5 (Int.tmod (wrap64 (x14 + 1)) (x5.length : Int))] : List Int))]) x12 x13 (wrap64 (x14 + 1))) else (none)) else (fu.l0 k x1 x5 x6 x12 x13 (wrap64 (x14 + 1))))) else (none)) else (none))) else (none)) else (none)) else (some x6)
def fu.f (k : Nat) (a0 : Int) (l1 : List Int) : Option ((List (List Int))):=(gB.f k a0).bind fun dZ=>(fu.l0 k l1 dZ ([] : List (List Int)) dZ (dZ.length : Int) 0)
theorem fu.bC : ∀ k,(∀ y0 y1 y2 y3 y4 y5,LeO (fu.l0 k y0 y1 y2 y3 y4 y5) (fu.l0 (k + 1) y0 y1 y2 y3 y4 y5))
 | 0=>fun _ _ _ _ _ _ r h=>by simp [fu.l0] at h
 | k + 1=>by
  have ih0:=fu.bC k
  ·intro y0 y1 y2 y3 y4 y5
   unfold fu.l0
   have m0:=@gB.mono
   exact MO
theorem fu.mono : ∀ a0 a1 k,LeO (fu.f k a0 a1) (fu.f (k + 1) a0 a1):=by
 intro a0 a1 k;have ih0:=fu.bC k;unfold fu.f
 have m0:=@gB.mono
 exact MO
theorem fu.calls (k : Nat) (a0 : Int) (A1 : Option Addr) (c1 : Nat) (l1 : List Int) (r : List (List Int)) (w : World) (hr1 : Kd.C (Kd.int .i64) w A1 l1.length l1) (hc1 : l1.length ≤ c1) (h : fu.f k a0 l1 = some r) :
  Calls Try.prog 32 #[.int .i64 a0,.slice A1 l1.length c1] w fun e w'=>∃ v0_ : Value,e = .returned (v0_)∧Kd.S (Kd.slice 3 (Kd.int .i64)) 24 w' w.heap.size (fun _=>True) v0_ r∧Below w.heap.size w w':=by
 have HR1:=AM hr1;have HC1:=AM hc1;clear hr1 hc1;have HB:=HRf w;have H : ((gB.f k a0).bind fun dZ=>(fu.l0 k l1 dZ ([] : List (List Int)) dZ (dZ.length : Int) 0)) = some r:=h;clear h;replace H:=EA H;obtain ⟨dZ,A3,H⟩:=H;have H':=AM H;clear H;go_enter Try.func32,Try.ntmps32;go_wp2_with (first|(refine GC 63 ?_;refine GM (some 11) Try.func63 (gB.calls k a0 dZ _ A3.out) ?_;rintro e w4 ⟨v127,rfl,ho0,hb⟩;refine ⟨_,rfl,?_⟩;have abZ:=AM (Kd.bD ho0 (BZ BB));replace HB:=HS hb;try clear hb ho0;obtain ⟨Ao5,co5,eo5⟩:=Kd.bG abZ.out;subst eo5));go_loopg [6,14] k (fun kq v6 v14 w'=>∃ (iO : List (List Int)) (bg : Int),v14 = .int .i64 bg∧ak (fu.l0 kq l1 dZ iO dZ (dZ.length : Int) bg = some r)∧ak (kq ≤ k)∧ak (Kd.R (Kd.int .i64) 3 w' w.heap.size (fun _=>True) (.slice Ao5 dZ.length co5) dZ)∧ak (Kd.S (Kd.slice 3 (Kd.int .i64)) 24 w' w.heap.size (fun k_=>some k_≠((.slice Ao5 dZ.length co5) : Value).ownBlock∧some k_≠((.slice Ao5 dZ.length co5) : Value).ownBlock) v6 iO)∧ak (Kd.R (Kd.int .i64) 3 w' w.heap.size (fun _=>True) (.slice Ao5 dZ.length co5) dZ)∧ak (Below w.heap.size w w'))
 case atStart=>exact ⟨(([] : List (List Int))),(0),RF,H',⟨Nat.le_refl _⟩,⟨KR abZ⟩,⟨by first|exact Kd.qB _ _ _ _ _|exact Kd.qz _ _ _ _ _|exact Kd.pE _ _ _ _ _|exact Kd.qA _ _ _ _ _|exact Kd.om _ _ _ _ _⟩,⟨KR abZ⟩,⟨BB⟩⟩
 case round =>
  clear H';try clear c1
  try clear p2
  try clear c3
  obtain ⟨iO,bg,rfl,HA,HK1,fq,bQ,fI,HB⟩:=hrel;cases gk with
  | zero=>exact absurd HA.out (by simp [fu.l0])
  | succ k1 =>
   have H:=HA.out;clear HA;simp only [fu.l0] at H;by_cases c6 : bg < (dZ.length : Int)
   ·rw [if_pos c6] at H;have iA:=DT c6;clear c6;replace H:=IC H;obtain ⟨c7,H⟩:=H;have kS:=DT c7;clear c7;replace H:=IC H;obtain ⟨c8,H⟩:=H;have nU:=DT c8;clear c8;replace H:=ID H;obtain ⟨c9,H⟩:=H;have wD:=beq_eq_false_iff_ne.mpr c9;have awI:=bne_iff_ne.mpr c9;have awJ : ¬ (dZ = []):=fun h_=>c9 (by rw [h_];rfl)
    obtain ⟨lG,Js⟩ : ∃ j_ : Int,(Int.tmod (wrap64 (bg + 1)) (dZ.length : Int)) = j_:=⟨_,rfl⟩;replace H : (if 0 ≤ (lG) then (if (lG) < (dZ.length : Int) then ((yZ.f l1 (rd dZ bg) (rd dZ (lG))).bind fun t131=>(if t131 = true then (if iO.length < 5864062014805 then (fu.l0 k1 l1 dZ (iO ++ [(([rd dZ bg,rd dZ (lG)] : List Int))]) dZ (dZ.length : Int) (wrap64 (bg + 1))) else (none)) else (fu.l0 k1 l1 dZ iO dZ (dZ.length : Int) (wrap64 (bg + 1))))) else (none)) else (none)) = some r:=by first|(rw [Js] at H;exact H)|(simp only [Js] at H ⊢;exact H)
    replace H:=IC H;obtain ⟨c11,H⟩:=H;have qK:=DT c11;clear c11;replace H:=IC H;obtain ⟨c12,H⟩:=H;have rQ:=DT c12;clear c12;replace H:=EA H;obtain ⟨t131,A13,H⟩:=H;by_cases c14 : t131 = true
    ·subst c14;replace H:=IP H;obtain ⟨Tn,ab0⟩ : ∃ y_ : List Int,y_ = (([rd dZ bg,rd dZ (lG)] : List Int)):=⟨_,rfl⟩;replace H : (if iO.length < 5864062014805 then (fu.l0 k1 l1 dZ (iO ++ [Tn]) dZ (dZ.length : Int) (wrap64 (bg + 1))) else (none)) = some r:=HY H ab0;have akx:=AM ab0;clear ab0;replace H:=IC H;obtain ⟨c15,H⟩:=H;have ab1:=AM c15;clear c15;obtain ⟨al7,ab2⟩ : ∃ y_ : List (List Int),y_ = (iO ++ [Tn]):=⟨_,rfl⟩;replace H : (fu.l0 k1 l1 dZ al7 dZ (dZ.length : Int) (wrap64 (bg + 1))) = some r:=HY H ab2;have as6:=AM ab2;clear ab2;have H':=AM H;clear H;have JZ : 0 ≤ (bg : Int):=OD AS;have J2 : bg < (dZ.length : Int):=OD AS;obtain ⟨D5,e129,aps⟩:=Kd.aN (Kd.aA fI.out).2.2 bg JZ J2;cases e129;replace JZ:=ET JZ;replace J2:=ET J2;have J3 : 0 ≤ ((lG) : Int):=OD AS;have J4 : (lG) < (dZ.length : Int):=OD AS;obtain ⟨ab3,ad7,apt⟩:=Kd.aN (Kd.aA fq.out).2.2 (lG) J3 J4;obtain rfl : D5 = ab3:=(by injection ad7);replace J3:=ET J3;replace J4:=ET J4;go_wp2_with (first|((with_reducible refine MJ (f:=64) rfl ?_);refine FY (some 30) rfl rfl Try.func64 (by kernel_rfl) rfl #[.slice A1 l1.length c1,.int .i64 (rd dZ bg),.int .i64 (rd dZ (lG))] rfl (by (try simp only [List.map_toArray,List.map_cons,List.map_nil]);first|done|(simp only [Js];rfl)|rfl|(simp only [List.length_drop,List.length_take];rfl)) ?_;(with_reducible refine (yZ.calls _ _ l1 (rd dZ bg) (rd dZ (lG)) true _ (CW (Kd.aQ HR1.out HB.out)) HC1.out A13.out).mono ?_);rintro e w' ⟨rfl,⟨nd,rfl⟩⟩;refine ⟨_,rfl,?_⟩)|((with_reducible refine dG (N:=34) rfl ?_);refine Kd.pF (Kd.int .i64) _ 3 ?hg (N:=34) ?hd (xs:=([rd dZ bg,rd dZ (lG)] : List Int)) (inner:=[.int .i64 (rd dZ bg),.int .i64 (rd dZ (lG))]) (ok:=fun _=>True) (okp:=fun _=>True) ?hr ?hp (fun _ hk=>hk) trivial (Below.refl _ _) (Nat.le_refl _) (by simp) ?_;(case hd=>rfl);(case hg=>rfl);(case hr=>exact GS);(case hp=>exact (aT.one (show Kd.M (Kd.int .i64) _ _ _ (rd dZ bg) [.int .i64 (rd dZ bg)] from rfl) (aT.one (show Kd.M (Kd.int .i64) _ _ _ (rd dZ (lG)) [.int .i64 (rd dZ (lG))] from rfl) (aT.none _ _))));intro aEH w16 wE hb hg_ eY;clear hg_ eY;(first|rw [← akx.out] at wE|(simp only [Int.reduceToNat] at wE;rw [← akx.out] at wE));replace bQ:=SO bQ wE hb;have Wz:=AM (Kd.bD (Kd.dM (Kd.dM wE (Kd.bJ (KR fq))) (Kd.bJ (KR fI))) (BZ BB));replace fq:=RO fq wE hb;replace fI:=RO fI wE hb;replace HB:=HS hb;clear hb wE;obtain ⟨Gu,Gv,CY⟩:=Kd.bG Wz.out;subst CY)|((with_reducible refine pW (b:=.append) (xs:=#[.tmp 31,.tmp 35]) rfl ?_);at_builtin;refine Kd.Vu (Kd.slice 3 (Kd.int .i64)) (w0:=w) w.heap.size rfl (.tmp 31) (.tmp 35) 41 24 (.slice none 0 0) 24 rfl Try.underlying41 ND rfl (by decide) (by omega) u6 iO Tn [.slice Gu Tn.length Gv] (fun k_=>some k_≠(.slice (some D5) dZ.length co5 : Value).ownBlock∧some k_≠(.slice (some D5) dZ.length co5 : Value).ownBlock) (fun k_=>some k_ = (.slice Gu Tn.length Gv : Value).ownBlock) rfl rfl ?aP (fun k_ hk_=>((Kd.aM (ok':=fun k_=>((fun k_=>some k_≠(.slice (some D5) dZ.length co5 : Value).ownBlock∧some k_≠(.slice (some D5) dZ.length co5 : Value).ownBlock)) k_∧some k_≠(u6 : Value).ownBlock) (Kd.qY (Wz.out) (Kd.sJ bQ.out) (by decide)) (fun k_ hk=>⟨⟨hk.1.1.2,hk.1.2⟩,hk.2⟩))).1 k_ hk_.symm) ?aF ?aO ?aB ?aS ?aL ?_;(case aP=>exact Kd.RX (Kd.aM (Kd.Du rfl (Kd.aM (ok':=fun k_=>((fun k_=>some k_≠(.slice (some D5) dZ.length co5 : Value).ownBlock∧some k_≠(.slice (some D5) dZ.length co5 : Value).ownBlock)) k_∧some k_≠(u6 : Value).ownBlock) (Kd.qY (Wz.out) (Kd.sJ bQ.out) (by decide)) (fun k_ hk=>⟨⟨hk.1.1.2,hk.1.2⟩,hk.2⟩))) (fun _ h_=>h_)));(case aB=>exact BB);(case aF=>exact (fun k_ hk=>⟨Kd.fresh' (Kd.bJ (KR fq)) k_ hk,Kd.fresh' (Kd.bJ (KR fI)) k_ hk⟩));(case aO=>exact (by (with_reducible repeat (first|apply Kd.fK|apply Kd.fM|apply Kd.dB));exact Kd.dx bQ.out (fun k_ hk=>⟨⟨hk.1.1,hk.1.2⟩,fun e_=>hk.2 e_⟩)));(case aS=>exact (BZ BB));(case aL=>have:=ab1.out;omega);intro aEI w18 ho hb hg hat;rw [← as6.out] at ho;replace fq:=AM (Kd.zQ (KR fq) (Kd.sJ (KS bQ)) (by decide) hg);replace fI:=AM (Kd.zQ (KR fI) (Kd.sJ (KS bQ)) (by decide) hg);replace HB:=AM hb;have as7:=AM ho;clear bQ Wz;clear ho hb hg hat));go_roundg k1
     case measure=>have:=HK1.out;omega
     case rel=>exact ⟨(al7),(wrap64 (bg + 1)),RF,H',⟨by have:=HK1.out;omega⟩,⟨by (with_reducible repeat (first|apply Kd.dh|apply Kd.dn|apply Kd.bF));exact Kd.aM fq.out (fun _ hk=>trivial)⟩,⟨KS as7⟩,⟨by (with_reducible repeat (first|apply Kd.dh|apply Kd.dn|apply Kd.bF));exact Kd.aM fI.out (fun _ hk=>trivial)⟩,⟨BB⟩⟩
    ·replace c14:=NF c14;subst c14;replace H:=IN H;have H':=AM H;clear H;have JZ : 0 ≤ (bg : Int):=OD AS;have J2 : bg < (dZ.length : Int):=OD AS;obtain ⟨D5,e129,aps⟩:=Kd.aN (Kd.aA fI.out).2.2 bg JZ J2;cases e129;replace JZ:=ET JZ;replace J2:=ET J2;have J3 : 0 ≤ ((lG) : Int):=OD AS;have J4 : (lG) < (dZ.length : Int):=OD AS;obtain ⟨ab3,ad7,apt⟩:=Kd.aN (Kd.aA fq.out).2.2 (lG) J3 J4;obtain rfl : D5 = ab3:=(by injection ad7);replace J3:=ET J3;replace J4:=ET J4;go_wp2_with (first|((with_reducible refine MJ (f:=64) rfl ?_);refine FY (some 30) rfl rfl Try.func64 (by kernel_rfl) rfl #[.slice A1 l1.length c1,.int .i64 (rd dZ bg),.int .i64 (rd dZ (lG))] rfl (by (try simp only [List.map_toArray,List.map_cons,List.map_nil]);first|done|(simp only [Js];rfl)|rfl|(simp only [List.length_drop,List.length_take];rfl)) ?_;(with_reducible refine (yZ.calls _ _ l1 (rd dZ bg) (rd dZ (lG)) false _ (CW (Kd.aQ HR1.out HB.out)) HC1.out A13.out).mono ?_);rintro e w' ⟨rfl,⟨nd,rfl⟩⟩;refine ⟨_,rfl,?_⟩));go_roundg k1
     case measure=>have:=HK1.out;omega
     case rel=>exact ⟨(iO),(wrap64 (bg + 1)),RF,H',⟨by have:=HK1.out;omega⟩,⟨KR fq⟩,⟨KS bQ⟩,⟨KR fI⟩,⟨BB⟩⟩
   ·rw [if_neg c6] at H;have iA:=DF c6;clear c6;obtain rfl:=Option.some.inj H;go_wp2;go_ret;exact ⟨_,RE,by (with_reducible repeat (first|apply Kd.fK|apply Kd.fM|apply Kd.dB));exact Kd.dx bQ.out (fun _ hk=>trivial),BB⟩

def pq.f (a0 : Int) : Option (Int):=some (wrap64 (Int.tdiv (wrap64 ((wrap64 (a0 + 1)) * (wrap64 (a0 + 2)))) 2))
theorem pq.calls (a0 : Int) (r : Int) (w : World) (h : pq.f a0 = some r) :
  Calls Try.prog 57 #[.int .i64 a0] w fun e w'=>e = .returned (.int .i64 r)∧dw w w':=by
 have H : (some (wrap64 (Int.tdiv (wrap64 ((wrap64 (a0 + 1)) * (wrap64 (a0 + 2)))) 2))) = some r:=h;clear h;obtain rfl:=Option.some.inj H;go_enter Try.func57,Try.ntmps57;go_wp2;go_ret;exact ⟨RF,DR⟩

def zN.f (a0 : Int) (a1 : Int) (a2 : Int) : Option (Bool):=if a0 ≥ a1 then (some (decide (a0 ≤ a2))) else (some false)
theorem zN.calls (a0 : Int) (a1 : Int) (a2 : Int) (r : Bool) (w : World) (h : zN.f a0 a1 a2 = some r) :
  Calls Try.prog 89 #[.int .i64 a0,.int .i64 a1,.int .i64 a2] w fun e w'=>e = .returned (.bool r)∧dw w w':=by
 have H : (if a0 ≥ a1 then (some (decide (a0 ≤ a2))) else (some false)) = some r:=h;clear h;by_cases c4 : a0 ≥ a1
 ·rw [if_pos c4] at H;have iR:=DT c4;clear c4;obtain rfl:=Option.some.inj H;go_enter Try.func89,Try.ntmps89;go_wp2;go_ret;exact ⟨RF,DR⟩
 ·rw [if_neg c4] at H;have iR:=DF c4;clear c4;obtain rfl:=Option.some.inj H;go_enter Try.func89,Try.ntmps89;go_wp2;go_ret;exact ⟨RF,DR⟩

def sH.f (a0 : Int) : Option (Bool):=(zN.f a0 1 8).bind fun t138=>(some t138)
theorem sH.calls (a0 : Int) (r : Bool) (w : World) (h : sH.f a0 = some r) :
  Calls Try.prog 70 #[.int .i64 a0] w fun e w'=>e = .returned (.bool r)∧dw w w':=by
 have H : ((zN.f a0 1 8).bind fun t138=>(some t138)) = some r:=h;clear h;replace H:=EA H;obtain ⟨t138,A2,H⟩:=H;obtain rfl:=Option.some.inj H;go_enter Try.func70,Try.ntmps70;go_wp2_with (first|(refine GC 89 ?_;refine GM (some 4) Try.func89 (zN.calls a0 1 8 t138 _ A2.out) ?_;rintro e w' ⟨rfl,⟨nd,rfl⟩⟩;refine ⟨_,rfl,?_⟩));go_ret;exact ⟨RF,DR⟩

def ng.l0 : Nat→Int→Int→List Int→Int→Int→Option (Bool)
 | 0,_,_,_,_,_=>none
 | k + 1,x1,x2,x9,x10,x11=>if x11 < x10 then (if 0 ≤ x11 then (if x11 < (x9.length : Int) then ((zN.f (rd x9 x11) x1 x2).bind fun ad8=>(if ad8 = true then (ng.l0 k x1 x2 x9 x10 (wrap64 (x11 + 1))) else (some false))) else (none)) else (none)) else (some true)
def ng.f (k : Nat) (l0 : List Int) (a1 : Int) (a2 : Int) : Option (Bool):=ng.l0 k a1 a2 l0 (l0.length : Int) 0
theorem ng.bC : ∀ k,(∀ y0 y1 y2 y3 y4,LeO (ng.l0 k y0 y1 y2 y3 y4) (ng.l0 (k + 1) y0 y1 y2 y3 y4))
 | 0=>fun _ _ _ _ _ r h=>by simp [ng.l0] at h
 | k + 1=>by
  have ih0:=ng.bC k
  ·intro y0 y1 y2 y3 y4
   unfold ng.l0
   exact MO
theorem ng.mono : ∀ a0 a1 a2 k,LeO (ng.f k a0 a1 a2) (ng.f (k + 1) a0 a1 a2):=by
 intro a0 a1 a2 k;have ih0:=ng.bC k;unfold ng.f
 exact MO
theorem ng.calls (k : Nat) (A0 : Option Addr) (c0 : Nat) (l0 : List Int) (a1 : Int) (a2 : Int) (r : Bool) (w : World) (hr0 : Kd.C (Kd.int .i64) w A0 l0.length l0) (hc0 : l0.length ≤ c0) (h : ng.f k l0 a1 a2 = some r) :
  Calls Try.prog 71 #[.slice A0 l0.length c0,.int .i64 a1,.int .i64 a2] w fun e w'=>e = .returned (.bool r)∧dw w w':=by
 have HR0:=AM hr0;have HC0:=AM hc0;clear hr0 hc0;have H : (ng.l0 k a1 a2 l0 (l0.length : Int) 0) = some r:=h;clear h;have H':=AM H;clear H;go_enter Try.func71,Try.ntmps71;go_wp2;go_loopg [11] k (fun kq v11 w'=>∃ (j6 : Int),v11 = .int .i64 j6∧ak (ng.l0 kq a1 a2 l0 (l0.length : Int) j6 = some r)∧ak (kq ≤ k)∧dw w w')
 case atStart=>exact ⟨(0),RF,H',⟨Nat.le_refl _⟩,by repeat (first|exact dw.refl _|apply dw.step)⟩
 case round =>
  clear H';try clear p2
  obtain ⟨j6,rfl,HA,HK1,⟨m1,rfl⟩⟩:=hrel;cases gk with
  | zero=>exact absurd HA.out (by simp [ng.l0])
  | succ k1 =>
   have H:=HA.out;clear HA;simp only [ng.l0] at H;by_cases c4 : j6 < (l0.length : Int)
   ·rw [if_pos c4] at H;have iR:=DT c4;clear c4;replace H:=IC H;obtain ⟨c5,H⟩:=H;have ko:=DT c5;clear c5;replace H:=IC H;obtain ⟨c6,H⟩:=H;have iA:=DT c6;clear c6;replace H:=EA H;obtain ⟨ad8,A7,H⟩:=H;by_cases c8 : ad8 = true
    ·subst c8;replace H:=IP H;have H':=AM H;clear H;have J5 : 0 ≤ (j6 : Int):=OD AS;have J6 : j6 < (l0.length : Int):=OD AS;obtain ⟨as8,aea,apu⟩:=Kd.aN HR0.out j6 J5 J6;cases aea;replace J5:=ET J5;replace J6:=ET J6;go_wp2_with (first|(refine GC 89 ?_;refine GM (some 18) Try.func89 (zN.calls (rd l0 j6) a1 a2 true _ A7.out) ?_;rintro e w' ⟨rfl,⟨nd,rfl⟩⟩;refine ⟨_,rfl,?_⟩));go_roundg k1
     case measure=>have:=HK1.out;omega
     case rel=>exact ⟨(wrap64 (j6 + 1)),RF,H',⟨by have:=HK1.out;omega⟩,by repeat (first|exact dw.refl _|apply dw.step)⟩
    ·replace c8:=NF c8;subst c8;replace H:=IN H;obtain rfl:=Option.some.inj H;have J5 : 0 ≤ (j6 : Int):=OD AS;have J6 : j6 < (l0.length : Int):=OD AS;obtain ⟨as8,aea,apu⟩:=Kd.aN HR0.out j6 J5 J6;cases aea;replace J5:=ET J5;replace J6:=ET J6;go_wp2_with (first|(refine GC 89 ?_;refine GM (some 18) Try.func89 (zN.calls (rd l0 j6) a1 a2 false _ A7.out) ?_;rintro e w' ⟨rfl,⟨nd,rfl⟩⟩;refine ⟨_,rfl,?_⟩));go_ret;exact ⟨RF,DR⟩
   ·rw [if_neg c4] at H;have iR:=DF c4;clear c4;obtain rfl:=Option.some.inj H;go_wp2;go_ret;exact ⟨RF,DR⟩

def gG.f (k : Nat) (a0 : Int) (l1 : List Int) : Option (Bool):=(sH.f a0).bind fun t141=>(if t141 = true then ((pq.f a0).bind fun J7=>(if (l1.length : Int) = J7 then ((ng.f k l1 0 2).bind fun t143=>(some t143)) else (some false))) else (some false))
theorem gG.mono : ∀ a0 a1 k,LeO (gG.f k a0 a1) (gG.f (k + 1) a0 a1):=by
 intro a0 a1 k;unfold gG.f
 have m0:=@ng.mono
 exact MO
theorem gG.calls (k : Nat) (a0 : Int) (A1 : Option Addr) (c1 : Nat) (l1 : List Int) (r : Bool) (w : World) (hr1 : Kd.C (Kd.int .i64) w A1 l1.length l1) (hc1 : l1.length ≤ c1) (h : gG.f k a0 l1 = some r) :
  Calls Try.prog 38 #[.int .i64 a0,.slice A1 l1.length c1] w fun e w'=>e = .returned (.bool r)∧dw w w':=by
 have HR1:=AM hr1;have HC1:=AM hc1;clear hr1 hc1;have H : ((sH.f a0).bind fun t141=>(if t141 = true then ((pq.f a0).bind fun J7=>(if (l1.length : Int) = J7 then ((ng.f k l1 0 2).bind fun t143=>(some t143)) else (some false))) else (some false))) = some r:=h;clear h;replace H:=EA H;obtain ⟨t141,A3,H⟩:=H;by_cases c4 : t141 = true
 ·subst c4;replace H:=IP H;replace H:=EA H;obtain ⟨J7,A5,H⟩:=H;by_cases c6 : (l1.length : Int) = J7
  ·rw [if_pos c6] at H;have iA:=QT c6;have uG:=bne_eq_false_iff_eq.mpr c6;clear c6;replace H:=EA H;obtain ⟨t143,A7,H⟩:=H;obtain rfl:=Option.some.inj H;go_enter Try.func38,Try.ntmps38;go_wp2_with (first|(refine GC 70 ?_;refine GM (some 6) Try.func70 (sH.calls a0 true _ A3.out) ?_;rintro e w' ⟨rfl,⟨nd,rfl⟩⟩;refine ⟨_,rfl,?_⟩)|(go_at_call 57;(with_reducible refine (pq.calls a0 J7 _ A5.out).mono ?_);rintro e w' ⟨rfl,⟨nd,rfl⟩⟩)|(go_at_call 71;(with_reducible refine (ng.calls k _ _ l1 0 2 t143 _ (CW HR1.out) HC1.out A7.out).mono ?_);rintro e w' ⟨rfl,⟨nd,rfl⟩⟩));go_ret;exact ⟨RF,DR⟩
  ·rw [if_neg c6] at H;have iA:=beq_eq_false_iff_ne.mpr c6;have uG:=bne_iff_ne.mpr c6;obtain rfl:=Option.some.inj H;go_enter Try.func38,Try.ntmps38;go_wp2_with (first|(refine GC 70 ?_;refine GM (some 6) Try.func70 (sH.calls a0 true _ A3.out) ?_;rintro e w' ⟨rfl,⟨nd,rfl⟩⟩;refine ⟨_,rfl,?_⟩)|(go_at_call 57;(with_reducible refine (pq.calls a0 J7 _ A5.out).mono ?_);rintro e w' ⟨rfl,⟨nd,rfl⟩⟩));go_ret;exact ⟨RF,DR⟩
 ·replace c4:=NF c4;subst c4;replace H:=IN H;obtain rfl:=Option.some.inj H;go_enter Try.func38,Try.ntmps38;go_wp2_with (first|(refine GC 70 ?_;refine GM (some 6) Try.func70 (sH.calls a0 false _ A3.out) ?_;rintro e w' ⟨rfl,⟨nd,rfl⟩⟩;refine ⟨_,rfl,?_⟩));go_ret;exact ⟨RF,DR⟩

end Go.Proofs.Ythaonijhfeemfaa.dL
