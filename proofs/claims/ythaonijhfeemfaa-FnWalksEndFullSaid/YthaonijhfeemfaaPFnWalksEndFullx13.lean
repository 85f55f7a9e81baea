-- Written by a program of this session (wip/tools/pp.sh) out of the translation; Lean checks it.
import Derived.Test.YthaonijhfeemfaaPFnWalksEndFullx12
namespace Go.Proofs.Ythaonijhfeemfaa.dL
open Go.RowKit Go.Proofs.YthaonijhfeemfaaOwn Go.Proofs.YthaonijhfeemfaaW.bU Go.Proofs.YthaonijhfeemfaaW.fB Go.Proofs.YthaonijhfeemfaaW.iw
attribute [local go_sem] nG nH nK nL nD nE nI nJ   -- for this text's walks alone
set_option linter.unusedVariables false
set_option maxHeartbeats 8000000
set_option maxRecDepth 100000
set_option linter.unusedSimpArgs false

mutual
def cB.l0 : Nat→Int→List (List Int)→Int→Option ((List (List Int)))
 | 0,_,_,_=>none
 | k + 1,x0,x3,x4=>(pq.f x0).bind fun TL=>(if x4 < TL then (cB.l1 k x0 x3 x4 (wrap64 (x4 + 1))) else (some x3))
def cB.l1 : Nat→Int→List (List Int)→Int→Int→Option ((List (List Int)))
 | 0,_,_,_,_=>none
 | k + 1,x0,x3,x4,x5=>(pq.f x0).bind fun TM=>(if x5 < TM then (cB.l2 k x0 x3 x4 x5 (wrap64 (x5 + 1))) else (cB.l0 k x0 x3 (wrap64 (x4 + 1))))
def cB.l2 : Nat→Int→List (List Int)→Int→Int→Int→Option ((List (List Int)))
 | 0,_,_,_,_,_=>none
 | k + 1,x0,x3,x4,x5,x6=>(pq.f x0).bind fun GQ=>(if x6 < GQ then ((iK.f k x0 x4 x5).bind fun aev=>(if aev = true then ((iK.f k x0 x4 x6).bind fun aew=>(if aew = true then ((iK.f k x0 x5 x6).bind fun aex=>(if aex = true then (if x3.length < 5864062014805 then (cB.l2 k x0 (x3 ++ [(([x4,x5,x6] : List Int))]) x4 x5 (wrap64 (x6 + 1))) else (none)) else (cB.l2 k x0 x3 x4 x5 (wrap64 (x6 + 1))))) else (cB.l2 k x0 x3 x4 x5 (wrap64 (x6 + 1))))) else (cB.l2 k x0 x3 x4 x5 (wrap64 (x6 + 1))))) else (cB.l1 k x0 x3 x4 (wrap64 (x5 + 1))))
end
def cB.f (k : Nat) (a0 : Int) : Option ((List (List Int))):=cB.l0 k a0 ([] : List (List Int)) 0
theorem cB.bC : ∀ k,(∀ y0 y1 y2,LeO (cB.l0 k y0 y1 y2) (cB.l0 (k + 1) y0 y1 y2))∧(∀ y0 y1 y2 y3,LeO (cB.l1 k y0 y1 y2 y3) (cB.l1 (k + 1) y0 y1 y2 y3))∧(∀ y0 y1 y2 y3 y4,LeO (cB.l2 k y0 y1 y2 y3 y4) (cB.l2 (k + 1) y0 y1 y2 y3 y4))
 | 0=>⟨fun _ _ _=>LZ,fun _ _ _ _=>LZ,fun _ _ _ _ _=>LZ⟩
 | k + 1=>by
  obtain ⟨ih0,ih1,ih2⟩:=cB.bC k
  have m0:=@iK.mono
  refine ⟨?_,?_,?_⟩ <;> intros
  all_goals (first|unfold cB.l0|unfold cB.l1|unfold cB.l2)
  all_goals exact MO
theorem cB.mono : ∀ a0 k,LeO (cB.f k a0) (cB.f (k + 1) a0):=by
 intro a0 k;obtain ⟨ih0,ih1,ih2⟩:=cB.bC k;unfold cB.f
 have m0:=@iK.mono
 exact MO
theorem cB.calls (k : Nat) (a0 : Int) (r : List (List Int)) (w : World) (h : cB.f k a0 = some r) :
  Calls Try.prog 28 #[.int .i64 a0] w fun e w'=>∃ v0_ : Value,e = .returned (v0_)∧Kd.S (Kd.slice 3 (Kd.int .i64)) 24 w' w.heap.size (fun _=>True) v0_ r∧Below w.heap.size w w':=by
 have HB:=HRf w;have H : (cB.l0 k a0 ([] : List (List Int)) 0) = some r:=h;clear h;have H':=AM H;clear H;go_enter Try.func28,Try.ntmps28;go_wp2;go_loopg [3,4] k (fun kq v3 v4 w'=>∃ (dO : List (List Int)) (fJ : Int),v4 = .int .i64 fJ∧ak (cB.l0 kq a0 dO fJ = some r)∧ak (kq ≤ k)∧ak (Kd.S (Kd.slice 3 (Kd.int .i64)) 24 w' w.heap.size (fun _=>True) v3 dO)∧ak (Below w.heap.size w w'))
 case atStart=>exact ⟨(([] : List (List Int))),(0),RF,H',⟨Nat.le_refl _⟩,⟨by first|exact Kd.qB _ _ _ _ _|exact Kd.qz _ _ _ _ _|exact Kd.pE _ _ _ _ _|exact Kd.qA _ _ _ _ _|exact Kd.om _ _ _ _ _⟩,⟨BB⟩⟩
 case round =>
  clear H';obtain ⟨dO,fJ,rfl,HA,HK1,bB,HB⟩:=hrel;cases gk with
  | zero=>exact absurd HA.out (by simp [cB.l0])
  | succ k1 =>
   have H:=HA.out;clear HA;simp only [cB.l0] at H;replace H:=EA H;obtain ⟨TL,A2,H⟩:=H;by_cases c3 : fJ < TL
   ·rw [if_pos c3] at H;have iQ:=DT c3;clear c3;have H':=AM H;clear H;go_wp2_with (first|(refine GC 57 ?_;refine GM (some 9) Try.func57 (pq.calls a0 TL _ A2.out) ?_;rintro e w' ⟨rfl,⟨nd,rfl⟩⟩;refine ⟨_,rfl,?_⟩));go_loopg [3,5] k1 (fun kq v3 v5 w'=>∃ (nT : List (List Int)) (eH : Int),v5 = .int .i64 eH∧ak (cB.l1 kq a0 nT fJ eH = some r)∧ak (kq ≤ k1)∧ak (Kd.S (Kd.slice 3 (Kd.int .i64)) 24 w' w.heap.size (fun _=>True) v3 nT)∧ak (Below w.heap.size w w'))
    case atStart=>exact ⟨(dO),(wrap64 (fJ + 1)),RF,H',⟨Nat.le_refl _⟩,⟨KS bB⟩,⟨BB⟩⟩
    case round =>
     clear H';try clear c2
     try clear p2
     try clear c3
     try clear iQ
     obtain ⟨nT,eH,rfl,HA,HK2,bB,HB⟩:=hrel;cases gk with
     | zero=>exact absurd HA.out (by simp [cB.l1])
     | succ k2 =>
      have H:=HA.out;clear HA;simp only [cB.l1] at H;replace H:=EA H;obtain ⟨TM,A4,H⟩:=H;by_cases c5 : eH < TM
      ·rw [if_pos c5] at H;have ko:=DT c5;clear c5;have H':=AM H;clear H;go_wp2_with (first|(refine GC 57 ?_;refine GM (some 17) Try.func57 (pq.calls a0 TM _ A4.out) ?_;rintro e w' ⟨rfl,⟨nd,rfl⟩⟩;refine ⟨_,rfl,?_⟩));go_loopg [3,6] k2 (fun kq v3 v6 w'=>∃ (lT : List (List Int)) (jJ : Int),v6 = .int .i64 jJ∧ak (cB.l2 kq a0 lT fJ eH jJ = some r)∧ak (kq ≤ k2)∧ak (Kd.S (Kd.slice 3 (Kd.int .i64)) 24 w' w.heap.size (fun _=>True) v3 lT)∧ak (Below w.heap.size w w'))
       case atStart=>exact ⟨(nT),(wrap64 (eH + 1)),RF,H',⟨Nat.le_refl _⟩,⟨KS bB⟩,⟨BB⟩⟩
       case round =>
        clear H';try clear c2
        try clear p2
        try clear c3
        try clear iQ
        try clear c5
        try clear ko
        try clear p2
        obtain ⟨lT,jJ,rfl,HA,HK3,bB,HB⟩:=hrel;cases gk with
        | zero=>exact absurd HA.out (by simp [cB.l2])
        | succ k3 =>
         have H:=HA.out;clear HA;simp only [cB.l2] at H;replace H:=EA H;obtain ⟨GQ,A6,H⟩:=H;by_cases c7 : jJ < GQ
         ·rw [if_pos c7] at H;have kS:=DT c7;clear c7;replace H:=EA H;obtain ⟨aev,A8,H⟩:=H;by_cases c9 : aev = true
          ·subst c9;replace H:=IP H;replace H:=EA H;obtain ⟨aew,A10,H⟩:=H;by_cases c11 : aew = true
           ·subst c11;replace H:=IP H;replace H:=EA H;obtain ⟨aex,A12,H⟩:=H;by_cases c13 : aex = true
            ·subst c13;replace H:=IP H;obtain ⟨TN,acr⟩ : ∃ y_ : List Int,y_ = (([fJ,eH,jJ] : List Int)):=⟨_,rfl⟩;replace H : (if lT.length < 5864062014805 then (cB.l2 k3 a0 (lT ++ [TN]) fJ eH (wrap64 (jJ + 1))) else (none)) = some r:=HY H acr;have akS:=AM acr;clear acr;replace H:=IC H;obtain ⟨c14,H⟩:=H;have atD:=AM c14;clear c14;obtain ⟨amo,acs⟩ : ∃ y_ : List (List Int),y_ = (lT ++ [TN]):=⟨_,rfl⟩;replace H : (cB.l2 k3 a0 amo fJ eH (wrap64 (jJ + 1))) = some r:=HY H acs;have atE:=AM acs;clear acs;have H':=AM H;clear H;go_wp2_with (first|(refine GC 57 ?_;refine GM (some 25) Try.func57 (pq.calls a0 GQ _ A6.out) ?_;rintro e w' ⟨rfl,⟨nd,rfl⟩⟩;refine ⟨_,rfl,?_⟩)|(refine GC 58 ?_;refine GM (some 32) Try.func58 (iK.calls k3 a0 fJ eH true _ A8.out) ?_;rintro e w15 ⟨rfl,hb⟩;refine ⟨_,rfl,?_⟩;replace bB:=SB bB hb;replace HB:=HS hb;try clear hb)|(go_at_call 58;(with_reducible refine (iK.calls k3 a0 fJ jJ true _ A10.out).mono ?_);rintro e w16 ⟨rfl,hb⟩;replace bB:=SB bB hb;replace HB:=HS hb;try clear hb)|(go_at_call 58;(with_reducible refine (iK.calls k3 a0 eH jJ true _ A12.out).mono ?_);rintro e w17 ⟨rfl,hb⟩;replace bB:=SB bB hb;replace HB:=HS hb;try clear hb)|((with_reducible refine dG (N:=49) rfl ?_);refine Kd.pF (Kd.int .i64) _ 3 ?hg (N:=49) ?hd (xs:=([fJ,eH,jJ] : List Int)) (inner:=[.int .i64 fJ,.int .i64 eH,.int .i64 jJ]) (ok:=fun _=>True) (okp:=fun _=>True) ?hr ?hp (fun _ hk=>hk) trivial (Below.refl _ _) (Nat.le_refl _) (by simp) ?_;(case hd=>rfl);(case hg=>rfl);(case hr=>exact GS);(case hp=>exact (aT.one (show Kd.M (Kd.int .i64) _ _ _ fJ [.int .i64 fJ] from rfl) (aT.one (show Kd.M (Kd.int .i64) _ _ _ eH [.int .i64 eH] from rfl) (aT.one (show Kd.M (Kd.int .i64) _ _ _ jJ [.int .i64 jJ] from rfl) (aT.none _ _)))));intro aES w18 OL hb hg_ eY;clear hg_ eY;(first|rw [← akS.out] at OL|(simp only [Int.reduceToNat] at OL;rw [← akS.out] at OL));replace bB:=SO bB OL hb;have WH:=AM (Kd.bD OL (BZ BB));replace HB:=HS hb;clear hb OL;obtain ⟨Ba,zD,yM⟩:=Kd.bG WH.out;subst yM)|((with_reducible refine pW (b:=.append) (xs:=#[.tmp 45,.tmp 50]) rfl ?_);at_builtin;refine Kd.Vu (Kd.slice 3 (Kd.int .i64)) (w0:=w) w.heap.size rfl (.tmp 45) (.tmp 50) 41 24 (.slice none 0 0) 24 rfl Try.underlying41 ND rfl (by decide) (by omega) u3 lT TN [.slice Ba TN.length zD] (fun _=>True) (fun k_=>some k_ = (.slice Ba TN.length zD : Value).ownBlock) rfl rfl ?aP (fun k_ hk_=>((Kd.aM (ok':=fun k_=>((fun _=>True)) k_∧some k_≠(u3 : Value).ownBlock) (Kd.qY (WH.out) (Kd.sJ bB.out) (by decide)) (fun k_ hk=>⟨trivial,hk.2⟩))).1 k_ hk_.symm) ?aF ?aO ?aB ?aS ?aL ?_;(case aP=>exact Kd.RX (Kd.aM (Kd.Du rfl (Kd.aM (ok':=fun k_=>((fun _=>True)) k_∧some k_≠(u3 : Value).ownBlock) (Kd.qY (WH.out) (Kd.sJ bB.out) (by decide)) (fun k_ hk=>⟨trivial,hk.2⟩))) (fun _ h_=>h_)));(case aB=>exact BB);(case aF=>exact (fun _ _=>trivial));(case aO=>exact (by (with_reducible repeat (first|apply Kd.fK|apply Kd.fM|apply Kd.dB));exact Kd.dx bB.out (fun k_ hk=>⟨trivial,fun e_=>hk.2 e_⟩)));(case aS=>exact (BZ BB));(case aL=>have:=atD.out;omega);intro aET w20 ho hb hg hat;rw [← atE.out] at ho;replace HB:=AM hb;have atF:=AM ho;clear bB WH;clear ho hb hg hat));go_roundg k3
             case measure=>have:=HK1.out;have:=HK2.out;have:=HK3.out;omega
             case rel=>exact ⟨(amo),(wrap64 (jJ + 1)),RF,H',⟨by have:=HK1.out;have:=HK2.out;have:=HK3.out;omega⟩,⟨KS atF⟩,⟨BB⟩⟩
            ·replace c13:=NF c13;subst c13;replace H:=IN H;have H':=AM H;clear H;go_wp2_with (first|(refine GC 57 ?_;refine GM (some 25) Try.func57 (pq.calls a0 GQ _ A6.out) ?_;rintro e w' ⟨rfl,⟨nd,rfl⟩⟩;refine ⟨_,rfl,?_⟩)|(refine GC 58 ?_;refine GM (some 32) Try.func58 (iK.calls k3 a0 fJ eH true _ A8.out) ?_;rintro e w22 ⟨rfl,hb⟩;refine ⟨_,rfl,?_⟩;replace bB:=SB bB hb;replace HB:=HS hb;try clear hb)|(go_at_call 58;(with_reducible refine (iK.calls k3 a0 fJ jJ true _ A10.out).mono ?_);rintro e w23 ⟨rfl,hb⟩;replace bB:=SB bB hb;replace HB:=HS hb;try clear hb)|(go_at_call 58;(with_reducible refine (iK.calls k3 a0 eH jJ false _ A12.out).mono ?_);rintro e w24 ⟨rfl,hb⟩;replace bB:=SB bB hb;replace HB:=HS hb;try clear hb));go_roundg k3
             case measure=>have:=HK1.out;have:=HK2.out;have:=HK3.out;omega
             case rel=>exact ⟨(lT),(wrap64 (jJ + 1)),RF,H',⟨by have:=HK1.out;have:=HK2.out;have:=HK3.out;omega⟩,⟨KS bB⟩,⟨BB⟩⟩
           ·replace c11:=NF c11;subst c11;replace H:=IN H;have H':=AM H;clear H;go_wp2_with (first|(refine GC 57 ?_;refine GM (some 25) Try.func57 (pq.calls a0 GQ _ A6.out) ?_;rintro e w' ⟨rfl,⟨nd,rfl⟩⟩;refine ⟨_,rfl,?_⟩)|(refine GC 58 ?_;refine GM (some 32) Try.func58 (iK.calls k3 a0 fJ eH true _ A8.out) ?_;rintro e w25 ⟨rfl,hb⟩;refine ⟨_,rfl,?_⟩;replace bB:=SB bB hb;replace HB:=HS hb;try clear hb)|(go_at_call 58;(with_reducible refine (iK.calls k3 a0 fJ jJ false _ A10.out).mono ?_);rintro e w26 ⟨rfl,hb⟩;replace bB:=SB bB hb;replace HB:=HS hb;try clear hb));go_roundg k3
            case measure=>have:=HK1.out;have:=HK2.out;have:=HK3.out;omega
            case rel=>exact ⟨(lT),(wrap64 (jJ + 1)),RF,H',⟨by have:=HK1.out;have:=HK2.out;have:=HK3.out;omega⟩,⟨KS bB⟩,⟨BB⟩⟩
          ·replace c9:=NF c9;subst c9;replace H:=IN H;have H':=AM H;clear H;go_wp2_with (first|(refine GC 57 ?_;refine GM (some 25) Try.func57 (pq.calls a0 GQ _ A6.out) ?_;rintro e w' ⟨rfl,⟨nd,rfl⟩⟩;refine ⟨_,rfl,?_⟩)|(refine GC 58 ?_;refine GM (some 32) Try.func58 (iK.calls k3 a0 fJ eH false _ A8.out) ?_;rintro e w27 ⟨rfl,hb⟩;refine ⟨_,rfl,?_⟩;replace bB:=SB bB hb;replace HB:=HS hb;try clear hb));go_roundg k3
           case measure=>have:=HK1.out;have:=HK2.out;have:=HK3.out;omega
           case rel=>exact ⟨(lT),(wrap64 (jJ + 1)),RF,H',⟨by have:=HK1.out;have:=HK2.out;have:=HK3.out;omega⟩,⟨KS bB⟩,⟨BB⟩⟩
         ·rw [if_neg c7] at H;have kS:=DF c7;clear c7;have H':=AM H;clear H;go_wp2_with (first|(refine GC 57 ?_;refine GM (some 25) Try.func57 (pq.calls a0 GQ _ A6.out) ?_;rintro e w' ⟨rfl,⟨nd,rfl⟩⟩;refine ⟨_,rfl,?_⟩));go_roundg k3
          case measure=>have:=HK1.out;have:=HK2.out;have:=HK3.out;omega
          case rel=>exact ⟨(lT),(wrap64 (eH + 1)),RF,H',⟨by have:=HK1.out;have:=HK2.out;have:=HK3.out;omega⟩,⟨KS bB⟩,⟨BB⟩⟩
      ·rw [if_neg c5] at H;have ko:=DF c5;clear c5;have H':=AM H;clear H;go_wp2_with (first|(refine GC 57 ?_;refine GM (some 17) Try.func57 (pq.calls a0 TM _ A4.out) ?_;rintro e w' ⟨rfl,⟨nd,rfl⟩⟩;refine ⟨_,rfl,?_⟩));go_roundg k2
       case measure=>have:=HK1.out;have:=HK2.out;omega
       case rel=>exact ⟨(nT),(wrap64 (fJ + 1)),RF,H',⟨by have:=HK1.out;have:=HK2.out;omega⟩,⟨KS bB⟩,⟨BB⟩⟩
   ·rw [if_neg c3] at H;have iQ:=DF c3;clear c3;obtain rfl:=Option.some.inj H;go_wp2_with (first|(refine GC 57 ?_;refine GM (some 9) Try.func57 (pq.calls a0 TL _ A2.out) ?_;rintro e w' ⟨rfl,⟨nd,rfl⟩⟩;refine ⟨_,rfl,?_⟩));go_ret;exact ⟨_,RE,KS bB,BB⟩

def eT.l0 : Nat→List Int→Int→List Int→Int→Int→Option (Bool)
 | 0,_,_,_,_,_=>none
 | k + 1,x0,x5,x8,x9,x10=>if x10 < x9 then (if 0 ≤ x10 then (if x10 < (x8.length : Int) then (if 0 ≤ (rd x8 x10) then (if (rd x8 x10) < (x0.length : Int) then (if 0 ≤ (rd x0 (rd x8 x10)) then (eT.l0 k x0 (Go.bits .or .i64 x5 (shl .i64 1 (rd x0 (rd x8 x10)))) x8 x9 (wrap64 (x10 + 1))) else (none)) else (none)) else (none)) else (none)) else (none)) else (some (x5 == 7))
def eT.f (k : Nat) (l0 : List Int) (l1 : List Int) : Option (Bool):=eT.l0 k l0 0 l1 (l1.length : Int) 0
theorem eT.bC : ∀ k,(∀ y0 y1 y2 y3 y4,LeO (eT.l0 k y0 y1 y2 y3 y4) (eT.l0 (k + 1) y0 y1 y2 y3 y4))
 | 0=>fun _ _ _ _ _ r h=>by simp [eT.l0] at h
 | k + 1=>by
  have ih0:=eT.bC k
  ·intro y0 y1 y2 y3 y4
   unfold eT.l0
   exact MO
theorem eT.mono : ∀ a0 a1 k,LeO (eT.f k a0 a1) (eT.f (k + 1) a0 a1):=by
 intro a0 a1 k;have ih0:=eT.bC k;unfold eT.f
 exact MO
theorem eT.calls (k : Nat) (A0 : Option Addr) (c0 : Nat) (l0 : List Int) (A1 : Option Addr) (c1 : Nat) (l1 : List Int) (r : Bool) (w : World) (hr0 : Kd.C (Kd.int .i64) w A0 l0.length l0) (hc0 : l0.length ≤ c0) (hr1 : Kd.C (Kd.int .i64) w A1 l1.length l1) (hc1 : l1.length ≤ c1) (h : eT.f k l0 l1 = some r) :
  Calls Try.prog 27 #[.slice A0 l0.length c0,.slice A1 l1.length c1] w fun e w'=>e = .returned (.bool r)∧dw w w':=by
 have HR0:=AM hr0;have HC0:=AM hc0;clear hr0 hc0;have HR1:=AM hr1;have HC1:=AM hc1;clear hr1 hc1;have H : (eT.l0 k l0 0 l1 (l1.length : Int) 0) = some r:=h;clear h;have H':=AM H;clear H;go_enter Try.func27,Try.ntmps27;go_wp2;go_loopg [5,10] k (fun kq v5 v10 w'=>∃ (fF : Int) (gH : Int),v5 = .int .i64 fF∧v10 = .int .i64 gH∧ak (eT.l0 kq l0 fF l1 (l1.length : Int) gH = some r)∧ak (kq ≤ k)∧dw w w')
 case atStart=>exact ⟨(0),(0),RF,RF,H',⟨Nat.le_refl _⟩,by repeat (first|exact dw.refl _|apply dw.step)⟩
 case round =>
  clear H';try clear c1
  try clear c2
  try clear p2
  obtain ⟨fF,gH,rfl,rfl,HA,HK1,⟨m1,rfl⟩⟩:=hrel;cases gk with
  | zero=>exact absurd HA.out (by simp [eT.l0])
  | succ k1 =>
   have H:=HA.out;clear HA;simp only [eT.l0] at H;by_cases c3 : gH < (l1.length : Int)
   ·rw [if_pos c3] at H;have iQ:=DT c3;clear c3;replace H:=IC H;obtain ⟨c4,H⟩:=H;have iR:=DT c4;clear c4;replace H:=IC H;obtain ⟨c5,H⟩:=H;have ko:=DT c5;clear c5;replace H:=IC H;obtain ⟨c6,H⟩:=H;have iA:=DT c6;clear c6;replace H:=IC H;obtain ⟨c7,H⟩:=H;have kS:=DT c7;clear c7;replace H:=IC H;obtain ⟨c8,H⟩:=H;have nU:=ET c8;have vD:=DT c8;clear c8;obtain ⟨ji9,lW⟩ : ∃ j_ : Int,(shl .i64 1 (rd l0 (rd l1 gH))) = j_:=⟨_,rfl⟩;replace H : (eT.l0 k1 l0 (Go.bits .or .i64 fF (ji9)) l1 (l1.length : Int) (wrap64 (gH + 1))) = some r:=by first|(rw [lW] at H;exact H)|(simp only [lW] at H ⊢;exact H)
    have R7 : (IntKind.i64.wrap (1 * 2 ^ min (rd l0 (rd l1 gH)).toNat 64)) = ji9:=lW;have R8 : (rd l0 (rd l1 gH)) ≤ 64→(IntKind.i64.wrap (1 * 2 ^ (rd l0 (rd l1 gH)).toNat)) = ji9:=Vl lW;have atG : (IntKind.i64.wrap (2 ^ min (rd l0 (rd l1 gH)).toNat 64)) = ji9:=by have h_:=R7;rw [Int.one_mul] at h_;exact h_
    have atH : (rd l0 (rd l1 gH)) ≤ 64→(IntKind.i64.wrap (2 ^ (rd l0 (rd l1 gH)).toNat)) = ji9:=fun KD=>by have h_:=R8 KD;rw [Int.one_mul] at h_;exact h_
    have atI : (wrap64 (1 * 2 ^ min (rd l0 (rd l1 gH)).toNat 64)) = ji9:=(dJ _).symm.trans R7;have atJ : (rd l0 (rd l1 gH)) ≤ 64→(wrap64 (1 * 2 ^ (rd l0 (rd l1 gH)).toNat)) = ji9:=fun h_=>(dJ _).symm.trans (R8 h_)
    have H':=AM H;clear H;have aey : 0 ≤ (gH : Int):=OD AS;have aez : gH < (l1.length : Int):=OD AS;obtain ⟨aCy,aw9,aAo⟩:=Kd.aN HR1.out gH aey aez;cases aw9;replace aey:=ET aey;replace aez:=ET aez;have aeA : 0 ≤ ((rd l1 gH) : Int):=OD AS;have aeB : (rd l1 gH) < (l0.length : Int):=OD AS;obtain ⟨aCz,axa,aAp⟩:=Kd.aN HR0.out (rd l1 gH) aeA aeB;cases axa;replace aeA:=ET aeA;replace aeB:=ET aeB;go_wp2;go_roundg k1
    case measure=>have:=HK1.out;omega
    case rel=>exact ⟨(Go.bits .or .i64 fF (ji9)),(wrap64 (gH + 1)),(by first|rfl|(simp;done)|(simp only [← lW] <;> (first|rfl|simp))|(simp [*];done)|(simp [*,wrap64];done)),RF,H',⟨by have:=HK1.out;omega⟩,by repeat (first|exact dw.refl _|apply dw.step)⟩
   ·rw [if_neg c3] at H;have iQ:=DF c3;clear c3;obtain rfl:=Option.some.inj H;go_wp2;go_ret;exact ⟨RF,DR⟩

mutual
def fD.l0 : Nat→List Int→List Int→List (List Int)→List Int→Int→Int→Option ((List (List Int)))
 | 0,_,_,_,_,_,_=>none
 | k + 1,x0,x1,x5,x10,x11,x12=>if x12 < x11 then (if 0 ≤ x12 then (if x12 < (x10.length : Int) then (if 0 ≤ (wrap64 (x12 + 1)) then (if (wrap64 (x12 + 1)) ≤ (x1.length : Int) then (fD.l1 k x0 x1 x5 (rd x10 x12) x10 x11 x12 (x1.drop ((wrap64 (x12 + 1)) : Int).toNat) ((x1.drop ((wrap64 (x12 + 1)) : Int).toNat).length : Int) 0) else (none)) else (none)) else (none)) else (none)) else (some x5)
def fD.l1 : Nat→List Int→List Int→List (List Int)→Int→List Int→Int→Int→List Int→Int→Int→Option ((List (List Int)))
 | 0,_,_,_,_,_,_,_,_,_,_=>none
 | k + 1,x0,x1,x5,x7,x10,x11,x12,x20,x21,x22=>if x22 < x21 then (if 0 ≤ x22 then (if x22 < (x20.length : Int) then ((yZ.f x0 x7 (rd x20 x22)).bind fun aeC=>(if aeC = true then (if x5.length < 5864062014805 then (fD.l1 k x0 x1 (x5 ++ [(([x7,rd x20 x22] : List Int))]) x7 x10 x11 x12 x20 x21 (wrap64 (x22 + 1))) else (none)) else (fD.l1 k x0 x1 x5 x7 x10 x11 x12 x20 x21 (wrap64 (x22 + 1))))) else (none)) else (none)) else (fD.l0 k x0 x1 x5 x10 x11 (wrap64 (x12 + 1)))
end
def fD.f (k : Nat) (l0 : List Int) (l1 : List Int) : Option ((List (List Int))):=fD.l0 k l0 l1 ([] : List (List Int)) l1 (l1.length : Int) 0
theorem fD.bC : ∀ k,(∀ y0 y1 y2 y3 y4 y5,LeO (fD.l0 k y0 y1 y2 y3 y4 y5) (fD.l0 (k + 1) y0 y1 y2 y3 y4 y5))∧(∀ y0 y1 y2 y3 y4 y5 y6 y7 y8 y9,LeO (fD.l1 k y0 y1 y2 y3 y4 y5 y6 y7 y8 y9) (fD.l1 (k + 1) y0 y1 y2 y3 y4 y5 y6 y7 y8 y9))
 | 0=>⟨fun _ _ _ _ _ _=>LZ,fun _ _ _ _ _ _ _ _ _ _=>LZ⟩
 | k + 1=>by
  obtain ⟨ih0,ih1⟩:=fD.bC k
  refine ⟨?_,?_⟩ <;> intros
  all_goals (first|unfold fD.l0|unfold fD.l1)
  all_goals exact MO
theorem fD.mono : ∀ a0 a1 k,LeO (fD.f k a0 a1) (fD.f (k + 1) a0 a1):=by
 intro a0 a1 k;obtain ⟨ih0,ih1⟩:=fD.bC k;unfold fD.f
 exact MO
theorem fD.calls (k : Nat) (A0 : Option Addr) (c0 : Nat) (l0 : List Int) (A1 : Option Addr) (c1 : Nat) (l1 : List Int) (r : List (List Int)) (w : World) (hr0 : Kd.C (Kd.int .i64) w A0 l0.length l0) (hc0 : l0.length ≤ c0) (hr1 : Kd.C (Kd.int .i64) w A1 l1.length l1) (hc1 : l1.length ≤ c1) (h : fD.f k l0 l1 = some r) :
  Calls Try.prog 45 #[.slice A0 l0.length c0,.slice A1 l1.length c1] w fun e w'=>∃ v0_ : Value,e = .returned (v0_)∧Kd.S (Kd.slice 3 (Kd.int .i64)) 24 w' w.heap.size (fun _=>True) v0_ r∧Below w.heap.size w w':=by
 have HR0:=AM hr0;have HC0:=AM hc0;clear hr0 hc0;have HR1:=AM hr1;have HC1:=AM hc1;clear hr1 hc1;have HB:=HRf w;have H : (fD.l0 k l0 l1 ([] : List (List Int)) l1 (l1.length : Int) 0) = some r:=h;clear h;have H':=AM H;clear H;go_enter Try.func45,Try.ntmps45;go_wp2;go_loopg [5,12] k (fun kq v5 v12 w'=>∃ (fF : List (List Int)) (bM : Int),v12 = .int .i64 bM∧ak (fD.l0 kq l0 l1 fF l1 (l1.length : Int) bM = some r)∧ak (kq ≤ k)∧ak (Kd.S (Kd.slice 3 (Kd.int .i64)) 24 w' w.heap.size (fun _=>True) v5 fF)∧ak (Below w.heap.size w w'))
 case atStart=>exact ⟨(([] : List (List Int))),(0),RF,H',⟨Nat.le_refl _⟩,⟨by first|exact Kd.qB _ _ _ _ _|exact Kd.qz _ _ _ _ _|exact Kd.pE _ _ _ _ _|exact Kd.qA _ _ _ _ _|exact Kd.om _ _ _ _ _⟩,⟨BB⟩⟩
 case round =>
  clear H';try clear c1
  try clear p2
  obtain ⟨fF,bM,rfl,HA,HK1,fq,HB⟩:=hrel;cases gk with
  | zero=>exact absurd HA.out (by simp [fD.l0])
  | succ k1 =>
   have H:=HA.out;clear HA;simp only [fD.l0] at H;by_cases c3 : bM < (l1.length : Int)
   ·rw [if_pos c3] at H;have iQ:=DT c3;clear c3;replace H:=IC H;obtain ⟨c4,H⟩:=H;have iR:=DT c4;clear c4;replace H:=IC H;obtain ⟨c5,H⟩:=H;have ko:=DT c5;clear c5;obtain ⟨ji6,TP⟩ : ∃ j_ : Int,(wrap64 (bM + 1)) = j_:=⟨_,rfl⟩;replace H : (if 0 ≤ (ji6) then (if (ji6) ≤ (l1.length : Int) then (fD.l1 k1 l0 l1 fF (rd l1 bM) l1 (l1.length : Int) bM (l1.drop ((ji6) : Int).toNat) ((l1.drop ((ji6) : Int).toNat).length : Int) 0) else (none)) else (none)) = some r:=by first|(rw [TP] at H;exact H)|(simp only [TP] at H ⊢;exact H)
    have aCA : (IntKind.i64.wrap (bM + 1)) = ji6:=(dJ _).trans TP;replace H:=IC H;obtain ⟨c7,H⟩:=H;have kS:=ET c7;have Bb:=DT c7;clear c7;replace H:=IC H;obtain ⟨c8,H⟩:=H;have nU:=ET c8;have vD:=DT c8;clear c8;have H':=AM H;clear H;have XW : 0 ≤ (bM : Int):=OD AS;have XY : bM < (l1.length : Int):=OD AS;obtain ⟨atK,axb,Z4⟩:=Kd.aN HR1.out bM XW XY;cases axb;try (replace Z4:=LC Z4)
    replace XW:=ET XW;replace XY:=ET XY;obtain ⟨i09,amq,_,amr,_⟩:=info_parts info3;obtain ⟨A9,aCB,hA9,hC9⟩:=anV (P:=Try.prog) (Value.int .i64) 0 24 3 .i64 Try.underlying24 amq amr (some atK) c1 l1 (ji6) (OD AS) (OD AS) HC1.out;have akT:=AM (Kd.Zd (h1:=fun _=>rfl) (hA9 _ (Kd.Ze HR1.out)));have aCC:=AM hC9;clear hA9 hC9 amq amr;go_wp2;go_loopg [5,22] k1 (fun kq v5 v22 w'=>∃ (eH : List (List Int)) (nA : Int),v22 = .int .i64 nA∧ak (fD.l1 kq l0 l1 eH (rd l1 bM) l1 (l1.length : Int) bM (l1.drop ((ji6) : Int).toNat) ((l1.drop ((ji6) : Int).toNat).length : Int) nA = some r)∧ak (kq ≤ k1)∧ak (Kd.S (Kd.slice 3 (Kd.int .i64)) 24 w' w.heap.size (fun _=>True) v5 eH)∧ak (Below w.heap.size w w'))
    case atStart=>exact ⟨(fF),(0),RF,H',⟨Nat.le_refl _⟩,⟨KS fq⟩,⟨BB⟩⟩
    case round =>
     clear H';try clear c1
     try clear p2
     try clear c3
     try clear iQ
     try clear c4
     try clear iR
     try clear c5
     try clear ko
     try clear p5
     try clear q5
     try clear hx5
     try clear p6
     try clear c7
     try clear kS
     try clear Bb
     try clear c8
     try clear nU
     try clear vD
     try clear Z4
     try clear p2
     try clear XW
     try clear XY
     obtain ⟨eH,nA,rfl,HA,HK2,fq,HB⟩:=hrel;cases gk with
     | zero=>exact absurd HA.out (by simp [fD.l1])
     | succ k2 =>
      have H:=HA.out;clear HA;simp only [fD.l1] at H;by_cases c10 : nA < ((l1.drop ((ji6) : Int).toNat).length : Int)
      ·rw [if_pos c10] at H;have mE:=DT c10;have atL : decide (nA < ((l1.length - ((ji6) : Int).toNat : Nat) : Int)) = true:=by rw [← List.length_drop];exact mE
       clear c10;replace H:=IC H;obtain ⟨c11,H⟩:=H;have qK:=DT c11;clear c11;replace H:=IC H;obtain ⟨c12,H⟩:=H;have rQ:=DT c12;have aCD : decide (nA < ((l1.length - ((ji6) : Int).toNat : Nat) : Int)) = true:=by rw [← List.length_drop];exact rQ
       clear c12;replace H:=EA H;obtain ⟨aeC,A13,H⟩:=H;by_cases c14 : aeC = true
       ·subst c14;replace H:=IP H;obtain ⟨TQ,acu⟩ : ∃ y_ : List Int,y_ = (([(rd l1 bM),rd (l1.drop ((ji6) : Int).toNat) nA] : List Int)):=⟨_,rfl⟩;replace H : (if eH.length < 5864062014805 then (fD.l1 k2 l0 l1 (eH ++ [TQ]) (rd l1 bM) l1 (l1.length : Int) bM (l1.drop ((ji6) : Int).toNat) ((l1.drop ((ji6) : Int).toNat).length : Int) (wrap64 (nA + 1))) else (none)) = some r:=HY H acu;have akU:=AM acu;clear acu;replace H:=IC H;obtain ⟨c15,H⟩:=H;have ab1:=AM c15;clear c15;obtain ⟨ams,acv⟩ : ∃ y_ : List (List Int),y_ = (eH ++ [TQ]):=⟨_,rfl⟩;replace H : (fD.l1 k2 l0 l1 ams (rd l1 bM) l1 (l1.length : Int) bM (l1.drop ((ji6) : Int).toNat) ((l1.drop ((ji6) : Int).toNat).length : Int) (wrap64 (nA + 1))) = some r:=HY H acv;have atM:=AM acv;clear acv;have H':=AM H;clear H;have KE : 0 ≤ (nA : Int):=OD AS;have ED : nA < ((l1.drop ((ji6) : Int).toNat).length : Int):=OD AS;have atN : (nA < ((l1.length - ((ji6) : Int).toNat : Nat) : Int)) = True:=ET (by rw [← List.length_drop];exact ED);obtain ⟨atO,aeD,Qj⟩:=Kd.aN akT.out nA KE ED;cases aeD;try (replace Qj:=LC Qj)
        replace KE:=ET KE;replace ED:=ET ED;go_wp2_with (first|((with_reducible refine MJ (f:=64) rfl ?_);refine FY (some 29) rfl rfl Try.func64 (by kernel_rfl) rfl #[.slice A0 l0.length c0,.int .i64 (rd l1 bM),.int .i64 (rd (l1.drop ((ji6) : Int).toNat) nA)] rfl (by (try simp only [List.map_toArray,List.map_cons,List.map_nil]);first|done|(simp only [TP];rfl)|rfl|(simp only [List.length_drop,List.length_take];rfl)) ?_;(with_reducible refine (yZ.calls _ _ l0 (rd l1 bM) (rd (l1.drop ((ji6) : Int).toNat) nA) true _ (CW (Kd.aQ HR0.out HB.out)) HC0.out A13.out).mono ?_);rintro e w' ⟨rfl,⟨nd,rfl⟩⟩;refine ⟨_,rfl,?_⟩)|((with_reducible refine dG (N:=33) rfl ?_);refine Kd.pF (Kd.int .i64) _ 3 ?hg (N:=33) ?hd (xs:=([(rd l1 bM),rd (l1.drop ((ji6) : Int).toNat) nA] : List Int)) (inner:=[.int .i64 (rd l1 bM),.int .i64 (rd (l1.drop ((ji6) : Int).toNat) nA)]) (ok:=fun _=>True) (okp:=fun _=>True) ?hr ?hp (fun _ hk=>hk) trivial (Below.refl _ _) (Nat.le_refl _) (by simp) ?_;(case hd=>rfl);(case hg=>rfl);(case hr=>exact GS);(case hp=>exact (aT.one (show Kd.M (Kd.int .i64) _ _ _ (rd l1 bM) [.int .i64 (rd l1 bM)] from rfl) (aT.one (show Kd.M (Kd.int .i64) _ _ _ (rd (l1.drop ((ji6) : Int).toNat) nA) [.int .i64 (rd (l1.drop ((ji6) : Int).toNat) nA)] from rfl) (aT.none _ _))));intro aEU w16 wE hb hg_ eY;clear hg_ eY;(first|rw [← akU.out] at wE|(simp only [Int.reduceToNat] at wE;rw [← akU.out] at wE));replace fq:=SO fq wE hb;have WI:=AM (Kd.bD wE (BZ BB));replace HB:=HS hb;clear hb wE;obtain ⟨Gu,Gv,CY⟩:=Kd.bG WI.out;subst CY)|((with_reducible refine pW (b:=.append) (xs:=#[.tmp 30,.tmp 34]) rfl ?_);at_builtin;refine Kd.Vu (Kd.slice 3 (Kd.int .i64)) (w0:=w) w.heap.size rfl (.tmp 30) (.tmp 34) 41 24 (.slice none 0 0) 24 rfl Try.underlying41 ND rfl (by decide) (by omega) u5 eH TQ [.slice Gu TQ.length Gv] (fun _=>True) (fun k_=>some k_ = (.slice Gu TQ.length Gv : Value).ownBlock) rfl rfl ?aP (fun k_ hk_=>((Kd.aM (ok':=fun k_=>((fun _=>True)) k_∧some k_≠(u5 : Value).ownBlock) (Kd.qY (WI.out) (Kd.sJ fq.out) (by decide)) (fun k_ hk=>⟨trivial,hk.2⟩))).1 k_ hk_.symm) ?aF ?aO ?aB ?aS ?aL ?_;(case aP=>exact Kd.RX (Kd.aM (Kd.Du rfl (Kd.aM (ok':=fun k_=>((fun _=>True)) k_∧some k_≠(u5 : Value).ownBlock) (Kd.qY (WI.out) (Kd.sJ fq.out) (by decide)) (fun k_ hk=>⟨trivial,hk.2⟩))) (fun _ h_=>h_)));(case aB=>exact BB);(case aF=>exact (fun _ _=>trivial));(case aO=>exact (by (with_reducible repeat (first|apply Kd.fK|apply Kd.fM|apply Kd.dB));exact Kd.dx fq.out (fun k_ hk=>⟨trivial,fun e_=>hk.2 e_⟩)));(case aS=>exact (BZ BB));(case aL=>have:=ab1.out;omega);intro aEV w18 ho hb hg hat;rw [← atM.out] at ho;replace HB:=AM hb;have atP:=AM ho;clear fq WI;clear ho hb hg hat));go_roundg k2
        case measure=>have:=HK1.out;have:=HK2.out;omega
        case rel=>exact ⟨(ams),(wrap64 (nA + 1)),RF,H',⟨by have:=HK1.out;have:=HK2.out;omega⟩,⟨KS atP⟩,⟨BB⟩⟩
       ·replace c14:=NF c14;subst c14;replace H:=IN H;have H':=AM H;clear H;have KE : 0 ≤ (nA : Int):=OD AS;have ED : nA < ((l1.drop ((ji6) : Int).toNat).length : Int):=OD AS;have atN : (nA < ((l1.length - ((ji6) : Int).toNat : Nat) : Int)) = True:=ET (by rw [← List.length_drop];exact ED);obtain ⟨atO,aeD,Qj⟩:=Kd.aN akT.out nA KE ED;cases aeD;try (replace Qj:=LC Qj)
        replace KE:=ET KE;replace ED:=ET ED;go_wp2_with (first|((with_reducible refine MJ (f:=64) rfl ?_);refine FY (some 29) rfl rfl Try.func64 (by kernel_rfl) rfl #[.slice A0 l0.length c0,.int .i64 (rd l1 bM),.int .i64 (rd (l1.drop ((ji6) : Int).toNat) nA)] rfl (by (try simp only [List.map_toArray,List.map_cons,List.map_nil]);first|done|(simp only [TP];rfl)|rfl|(simp only [List.length_drop,List.length_take];rfl)) ?_;(with_reducible refine (yZ.calls _ _ l0 (rd l1 bM) (rd (l1.drop ((ji6) : Int).toNat) nA) false _ (CW (Kd.aQ HR0.out HB.out)) HC0.out A13.out).mono ?_);rintro e w' ⟨rfl,⟨nd,rfl⟩⟩;refine ⟨_,rfl,?_⟩));go_roundg k2
        case measure=>have:=HK1.out;have:=HK2.out;omega
        case rel=>exact ⟨(eH),(wrap64 (nA + 1)),RF,H',⟨by have:=HK1.out;have:=HK2.out;omega⟩,⟨KS fq⟩,⟨BB⟩⟩
      ·rw [if_neg c10] at H;have mE:=DF c10;have atL : decide (nA < ((l1.length - ((ji6) : Int).toNat : Nat) : Int)) = false:=by rw [← List.length_drop];exact mE
       clear c10;have H':=AM H;clear H;go_wp2;go_roundg k2
       case measure=>have:=HK1.out;have:=HK2.out;omega
       case rel=>exact ⟨(eH),(wrap64 (bM + 1)),RF,H',⟨by have:=HK1.out;have:=HK2.out;omega⟩,⟨KS fq⟩,⟨BB⟩⟩
   ·rw [if_neg c3] at H;have iQ:=DF c3;clear c3;obtain rfl:=Option.some.inj H;go_wp2;go_ret;exact ⟨_,RE,KS fq,BB⟩

def ku.l0 : Nat→Int→List Int→Int→Int→Option (Bool)
 | 0,_,_,_,_=>none
 | k + 1,x1,x7,x8,x9=>if x9 < x8 then (if 0 ≤ x9 then (if x9 < (x7.length : Int) then (if (rd x7 x9) = x1 then (some true) else (ku.l0 k x1 x7 x8 (wrap64 (x9 + 1)))) else (none)) else (none)) else (some false)
def ku.f (k : Nat) (l0 : List Int) (a1 : Int) : Option (Bool):=ku.l0 k a1 l0 (l0.length : Int) 0
theorem ku.bC : ∀ k,(∀ y0 y1 y2 y3,LeO (ku.l0 k y0 y1 y2 y3) (ku.l0 (k + 1) y0 y1 y2 y3))
 | 0=>fun _ _ _ _ r h=>by simp [ku.l0] at h
 | k + 1=>by
  have ih0:=ku.bC k
  ·intro y0 y1 y2 y3
   unfold ku.l0
   exact MO
theorem ku.mono : ∀ a0 a1 k,LeO (ku.f k a0 a1) (ku.f (k + 1) a0 a1):=by
 intro a0 a1 k;have ih0:=ku.bC k;unfold ku.f
 exact MO
theorem ku.calls (k : Nat) (A0 : Option Addr) (c0 : Nat) (l0 : List Int) (a1 : Int) (r : Bool) (w : World) (hr0 : Kd.C (Kd.int .i64) w A0 l0.length l0) (hc0 : l0.length ≤ c0) (h : ku.f k l0 a1 = some r) :
  Calls Try.prog 93 #[.slice A0 l0.length c0,.int .i64 a1] w fun e w'=>e = .returned (.bool r)∧dw w w':=by
 have HR0:=AM hr0;have HC0:=AM hc0;clear hr0 hc0;have H : (ku.l0 k a1 l0 (l0.length : Int) 0) = some r:=h;clear h;have H':=AM H;clear H;go_enter Try.func93,Try.ntmps93;go_wp2;go_loopg [9] k (fun kq v9 w'=>∃ (dS : Int),v9 = .int .i64 dS∧ak (ku.l0 kq a1 l0 (l0.length : Int) dS = some r)∧ak (kq ≤ k)∧dw w w')
 case atStart=>exact ⟨(0),RF,H',⟨Nat.le_refl _⟩,by repeat (first|exact dw.refl _|apply dw.step)⟩
 case round =>
  clear H';try clear p2
  obtain ⟨dS,rfl,HA,HK1,⟨m1,rfl⟩⟩:=hrel;cases gk with
  | zero=>exact absurd HA.out (by simp [ku.l0])
  | succ k1 =>
   have H:=HA.out;clear HA;simp only [ku.l0] at H;by_cases c3 : dS < (l0.length : Int)
   ·rw [if_pos c3] at H;have iQ:=DT c3;clear c3;replace H:=IC H;obtain ⟨c4,H⟩:=H;have iR:=DT c4;clear c4;replace H:=IC H;obtain ⟨c5,H⟩:=H;have ko:=DT c5;clear c5;by_cases c6 : (rd l0 dS) = a1
    ·rw [if_pos c6] at H;have iA:=QT c6;have uG:=bne_eq_false_iff_eq.mpr c6;clear c6;obtain rfl:=Option.some.inj H;have KG : 0 ≤ (dS : Int):=OD AS;have KH : dS < (l0.length : Int):=OD AS;obtain ⟨atQ,aeE,apP⟩:=Kd.aN HR0.out dS KG KH;cases aeE;replace KG:=ET KG;replace KH:=ET KH;go_wp2;go_ret;exact ⟨RF,DR⟩
    ·rw [if_neg c6] at H;have iA:=beq_eq_false_iff_ne.mpr c6;have uG:=bne_iff_ne.mpr c6;have H':=AM H;clear H;have KG : 0 ≤ (dS : Int):=OD AS;have KH : dS < (l0.length : Int):=OD AS;obtain ⟨atQ,aeE,apP⟩:=Kd.aN HR0.out dS KG KH;cases aeE;replace KG:=ET KG;replace KH:=ET KH;go_wp2;go_roundg k1
     case measure=>have:=HK1.out;omega
     case rel=>exact ⟨(wrap64 (dS + 1)),RF,H',⟨by have:=HK1.out;omega⟩,by repeat (first|exact dw.refl _|apply dw.step)⟩
   ·rw [if_neg c3] at H;have iQ:=DF c3;clear c3;obtain rfl:=Option.some.inj H;go_wp2;go_ret;exact ⟨RF,DR⟩

end Go.Proofs.Ythaonijhfeemfaa.dL
