-- Written by a program of this session (wip/tools/pp.sh) out of the translation; Lean checks it.
import Derived.Test.YthaonijhfeemfaaPFnWalksEndFullx0
namespace Go.Proofs.Ythaonijhfeemfaa.dL
open Go.RowKit Go.Proofs.YthaonijhfeemfaaOwn Go.Proofs.YthaonijhfeemfaaW.bU Go.Proofs.YthaonijhfeemfaaW.fB Go.Proofs.YthaonijhfeemfaaW.iw
attribute [local go_sem] nG nH nK nL nD nE nI nJ   -- for this text's walks alone
set_option linter.unusedVariables false
set_option maxHeartbeats 8000000
set_option maxRecDepth 100000
set_option linter.unusedSimpArgs false

def wY.f (a0 : Int) (a1 : Int) (a2 : Int) : Option (Bool):=if a1 ≤ a0 then (some (decide (a0 ≤ a2))) else (some false)
theorem wY.calls (a0 : Int) (a1 : Int) (a2 : Int) (r : Bool) (w : World) (h : wY.f a0 a1 a2 = some r) :
  Calls Try.prog 68 #[.int .i64 a0,.int .i64 a1,.int .i64 a2] w fun e w'=>e = .returned (.bool r)∧dw w w':=by
 have H : (if a1 ≤ a0 then (some (decide (a0 ≤ a2))) else (some false)) = some r:=h;clear h;by_cases c4 : a1 ≤ a0
 ·rw [if_pos c4] at H;have iR:=DT c4;clear c4;obtain rfl:=Option.some.inj H;go_enter Try.func68,Try.ntmps68;go_wp2;go_ret;exact ⟨RF,DR⟩
 ·rw [if_neg c4] at H;have iR:=DF c4;clear c4;obtain rfl:=Option.some.inj H;go_enter Try.func68,Try.ntmps68;go_wp2;go_ret;exact ⟨RF,DR⟩

def wT.f (a0 : Int) : Option (Bool):=(wY.f a0 1 8).bind fun UN=>(some UN)
theorem wT.calls (a0 : Int) (r : Bool) (w : World) (h : wT.f a0 = some r) :
  Calls Try.prog 67 #[.int .i64 a0] w fun e w'=>e = .returned (.bool r)∧dw w w':=by
 have H : ((wY.f a0 1 8).bind fun UN=>(some UN)) = some r:=h;clear h;replace H:=EA H;obtain ⟨UN,A2,H⟩:=H;obtain rfl:=Option.some.inj H;go_enter Try.func67,Try.ntmps67;go_wp2_with (first|(refine GC 68 ?_;refine GM (some 4) Try.func68 (wY.calls a0 1 8 UN _ A2.out) ?_;rintro e w' ⟨rfl,⟨nd,rfl⟩⟩;refine ⟨_,rfl,?_⟩));go_ret;exact ⟨RF,DR⟩

def Fb.f (a0 : Int) : Option (Int):=some (wrap64 (Int.tdiv (wrap64 ((wrap64 (a0 + 1)) * (wrap64 (a0 + 2)))) 2))
theorem Fb.calls (a0 : Int) (r : Int) (w : World) (h : Fb.f a0 = some r) :
  Calls Try.prog 72 #[.int .i64 a0] w fun e w'=>e = .returned (.int .i64 r)∧dw w w':=by
 have H : (some (wrap64 (Int.tdiv (wrap64 ((wrap64 (a0 + 1)) * (wrap64 (a0 + 2)))) 2))) = some r:=h;clear h;obtain rfl:=Option.some.inj H;go_enter Try.func72,Try.ntmps72;go_wp2;go_ret;exact ⟨RF,DR⟩



def Fa.f (a0 : Int) : Option (Bool):=(wY.f a0 0 2).bind fun UO=>(some (!UO))
theorem Fa.calls (a0 : Int) (r : Bool) (w : World) (h : Fa.f a0 = some r) :
  Calls Try.prog 74 #[.int .i64 a0] w fun e w'=>e = .returned (.bool r)∧dw w w':=by
 have H : ((wY.f a0 0 2).bind fun UO=>(some (!UO))) = some r:=h;clear h;replace H:=EA H;obtain ⟨UO,A2,H⟩:=H;obtain rfl:=Option.some.inj H;go_enter Try.func74,Try.ntmps74;go_wp2_with (first|(refine GC 68 ?_;refine GM (some 4) Try.func68 (wY.calls a0 0 2 UO _ A2.out) ?_;rintro e w' ⟨rfl,⟨nd,rfl⟩⟩;refine ⟨_,rfl,?_⟩));go_ret;exact ⟨RF,DR⟩

def mI.l0 : Nat→List Int→Int→Int→Option (Int)
 | 0,_,_,_=>none
 | k + 1,x0,x7,x8=>if x8 < x7 then (if 0 ≤ x8 then (if x8 < (x0.length : Int) then ((Fa.f (rd x0 x8)).bind fun agf=>(if agf = true then (some x8) else (mI.l0 k x0 x7 (wrap64 (x8 + 1))))) else (none)) else (none)) else (some (-1))
def mI.f (k : Nat) (l0 : List Int)  : Option (Int):=mI.l0 k l0 (l0.length : Int) 0
theorem mI.bC : ∀ k,(∀ y0 y1 y2,LeO (mI.l0 k y0 y1 y2) (mI.l0 (k + 1) y0 y1 y2))
 | 0=>fun _ _ _ r h=>by simp [mI.l0] at h
 | k + 1=>by
  have ih0:=mI.bC k
  ·intro y0 y1 y2
   unfold mI.l0
   exact MO
theorem mI.mono : ∀ a0 k,LeO (mI.f k a0) (mI.f (k + 1) a0):=by
 intro a0 k;have ih0:=mI.bC k;unfold mI.f
 exact MO
theorem mI.calls (k : Nat) (A0 : Option Addr) (c0 : Nat) (l0 : List Int)  (r : Int) (w : World) (hr0 : Kd.C (Kd.int .i64) w A0 l0.length l0) (hc0 : l0.length ≤ c0) (h : mI.f k l0 = some r) :
  Calls Try.prog 90 #[.slice A0 l0.length c0,.func (.func 74) #[] #[]] w fun e w'=>e = .returned (.int .i64 r)∧dw w w':=by
 have HR0:=AM hr0;have HC0:=AM hc0;clear hr0 hc0;have H : (mI.l0 k l0 (l0.length : Int) 0) = some r:=h;clear h;have H':=AM H;clear H;go_enter Try.func90,Try.ntmps90;go_wp2;go_loopg [8] k (fun kq v8 w'=>∃ (jy : Int),v8 = .int .i64 jy∧ak (mI.l0 kq l0 (l0.length : Int) jy = some r)∧ak (kq ≤ k)∧dw w w')
 case atStart=>exact ⟨(0),RF,H',⟨Nat.le_refl _⟩,by repeat (first|exact dw.refl _|apply dw.step)⟩
 case round =>
  clear H';try clear p2
  obtain ⟨jy,rfl,HA,HK1,⟨m1,rfl⟩⟩:=hrel;cases gk with
  | zero=>exact absurd HA.out (by simp [mI.l0])
  | succ k1 =>
   have H:=HA.out;clear HA;simp only [mI.l0] at H;by_cases c3 : jy < (l0.length : Int)
   ·rw [if_pos c3] at H;have iQ:=DT c3;clear c3;replace H:=IC H;obtain ⟨c4,H⟩:=H;have iR:=DT c4;clear c4;replace H:=IC H;obtain ⟨c5,H⟩:=H;have ko:=DT c5;clear c5;replace H:=EA H;obtain ⟨agf,A6,H⟩:=H;by_cases c7 : agf = true
    ·subst c7;replace H:=IP H;obtain rfl:=Option.some.inj H;have L8 : 0 ≤ (jy : Int):=OD AS;have L9 : jy < (l0.length : Int):=OD AS;obtain ⟨avY,e294,aqF⟩:=Kd.aN HR0.out jy L8 L9;cases e294;replace L8:=ET L8;replace L9:=ET L9;go_wp2_with (first|(go_at_call 74;(with_reducible refine (Fa.calls (rd l0 jy) true _ A6.out).mono ?_);rintro e w' ⟨rfl,⟨nd,rfl⟩⟩));go_ret;exact ⟨RF,DR⟩
    ·replace c7:=NF c7;subst c7;replace H:=IN H;have H':=AM H;clear H;have L8 : 0 ≤ (jy : Int):=OD AS;have L9 : jy < (l0.length : Int):=OD AS;obtain ⟨avY,e294,aqF⟩:=Kd.aN HR0.out jy L8 L9;cases e294;replace L8:=ET L8;replace L9:=ET L9;go_wp2_with (first|(go_at_call 74;(with_reducible refine (Fa.calls (rd l0 jy) false _ A6.out).mono ?_);rintro e w' ⟨rfl,⟨nd,rfl⟩⟩));go_roundg k1
     case measure=>have:=HK1.out;omega
     case rel=>exact ⟨(wrap64 (jy + 1)),RF,H',⟨by have:=HK1.out;omega⟩,by repeat (first|exact dw.refl _|apply dw.step)⟩
   ·rw [if_neg c3] at H;have iQ:=DF c3;clear c3;obtain rfl:=Option.some.inj H;go_wp2;go_ret;exact ⟨RF,DR⟩

def yU.f (k : Nat) (l0 : List Int)  : Option (Bool):=(mI.f k l0).bind fun UQ=>(some (decide (UQ ≥ 0)))
theorem yU.mono : ∀ a0 k,LeO (yU.f k a0) (yU.f (k + 1) a0):=by
 intro a0 k;unfold yU.f
 have m0:=@mI.mono
 exact MO
theorem yU.calls (k : Nat) (A0 : Option Addr) (c0 : Nat) (l0 : List Int)  (r : Bool) (w : World) (hr0 : Kd.C (Kd.int .i64) w A0 l0.length l0) (hc0 : l0.length ≤ c0) (h : yU.f k l0 = some r) :
  Calls Try.prog 73 #[.slice A0 l0.length c0,.func (.func 74) #[] #[]] w fun e w'=>e = .returned (.bool r)∧dw w w':=by
 have HR0:=AM hr0;have HC0:=AM hc0;clear hr0 hc0;have H : ((mI.f k l0).bind fun UQ=>(some (decide (UQ ≥ 0)))) = some r:=h;clear h;replace H:=EA H;obtain ⟨UQ,A3,H⟩:=H;obtain rfl:=Option.some.inj H;go_enter Try.func73,Try.ntmps73;go_wp2_with (first|(refine GC 90 ?_;refine GM (some 7) Try.func90 (mI.calls k _ _ l0  UQ _ (CW HR0.out) HC0.out A3.out) ?_;rintro e w' ⟨rfl,⟨nd,rfl⟩⟩;refine ⟨_,rfl,?_⟩));go_ret;exact ⟨RF,DR⟩

def o9.f (k : Nat) (a0 : Int) (l1 : List Int) : Option (Bool):=(wT.f a0).bind fun UR=>(if UR = true then ((Fb.f a0).bind fun Ma=>(if (l1.length : Int) = Ma then ((yU.f k l1).bind fun UU=>(some (!UU))) else (some false))) else (some false))
theorem o9.mono : ∀ a0 a1 k,LeO (o9.f k a0 a1) (o9.f (k + 1) a0 a1):=by
 intro a0 a1 k;unfold o9.f
 have m0:=@yU.mono
 exact MO
theorem o9.calls (k : Nat) (a0 : Int) (A1 : Option Addr) (c1 : Nat) (l1 : List Int) (r : Bool) (w : World) (hr1 : Kd.C (Kd.int .i64) w A1 l1.length l1) (hc1 : l1.length ≤ c1) (h : o9.f k a0 l1 = some r) :
  Calls Try.prog 46 #[.int .i64 a0,.slice A1 l1.length c1] w fun e w'=>e = .returned (.bool r)∧dw w w':=by
 have HR1:=AM hr1;have HC1:=AM hc1;clear hr1 hc1;have H : ((wT.f a0).bind fun UR=>(if UR = true then ((Fb.f a0).bind fun Ma=>(if (l1.length : Int) = Ma then ((yU.f k l1).bind fun UU=>(some (!UU))) else (some false))) else (some false))) = some r:=h;clear h;replace H:=EA H;obtain ⟨UR,A3,H⟩:=H;by_cases c4 : UR = true
 ·subst c4;replace H:=IP H;replace H:=EA H;obtain ⟨Ma,A5,H⟩:=H;by_cases c6 : (l1.length : Int) = Ma
  ·rw [if_pos c6] at H;have iA:=QT c6;have uG:=bne_eq_false_iff_eq.mpr c6;clear c6;replace H:=EA H;obtain ⟨UU,A7,H⟩:=H;obtain rfl:=Option.some.inj H;go_enter Try.func46,Try.ntmps46;go_wp2_with (first|(refine GC 67 ?_;refine GM (some 6) Try.func67 (wT.calls a0 true _ A3.out) ?_;rintro e w' ⟨rfl,⟨nd,rfl⟩⟩;refine ⟨_,rfl,?_⟩)|(go_at_call 72;(with_reducible refine (Fb.calls a0 Ma _ A5.out).mono ?_);rintro e w' ⟨rfl,⟨nd,rfl⟩⟩)|(go_at_call 73;(with_reducible refine (yU.calls k _ _ l1  UU _ (CW HR1.out) HC1.out A7.out).mono ?_);rintro e w' ⟨rfl,⟨nd,rfl⟩⟩));go_ret;exact ⟨RF,DR⟩
  ·rw [if_neg c6] at H;have iA:=beq_eq_false_iff_ne.mpr c6;have uG:=bne_iff_ne.mpr c6;obtain rfl:=Option.some.inj H;go_enter Try.func46,Try.ntmps46;go_wp2_with (first|(refine GC 67 ?_;refine GM (some 6) Try.func67 (wT.calls a0 true _ A3.out) ?_;rintro e w' ⟨rfl,⟨nd,rfl⟩⟩;refine ⟨_,rfl,?_⟩)|(go_at_call 72;(with_reducible refine (Fb.calls a0 Ma _ A5.out).mono ?_);rintro e w' ⟨rfl,⟨nd,rfl⟩⟩));go_ret;exact ⟨RF,DR⟩
 ·replace c4:=NF c4;subst c4;replace H:=IN H;obtain rfl:=Option.some.inj H;go_enter Try.func46,Try.ntmps46;go_wp2_with (first|(refine GC 67 ?_;refine GM (some 6) Try.func67 (wT.calls a0 false _ A3.out) ?_;rintro e w' ⟨rfl,⟨nd,rfl⟩⟩;refine ⟨_,rfl,?_⟩));go_ret;exact ⟨RF,DR⟩

mutual
def iq.l0 : Nat→Int→List (S86)→Int→Option ((List (S86)))
 | 0,_,_,_=>none
 | k + 1,x0,x3,x4=>if x4 ≥ 0 then (iq.l1 k x0 x3 x4 (wrap64 (x0 - x4))) else (some x3)
def iq.l1 : Nat→Int→List (S86)→Int→Int→Option ((List (S86)))
 | 0,_,_,_,_=>none
 | k + 1,x0,x3,x4,x5=>if x5 ≥ 0 then (if x3.length < 5864062014805 then (iq.l1 k x0 (x3 ++ [(⟨x4,x5,wrap64 ((wrap64 (x0 - x4)) - x5)⟩ : S86)]) x4 (wrap64 (x5 - 1))) else (none)) else (iq.l0 k x0 x3 (wrap64 (x4 - 1)))
end
def iq.f (k : Nat) (a0 : Int) : Option ((List (S86))):=iq.l0 k a0 (([] : List (S86))) a0
theorem iq.bC : ∀ k,(∀ y0 y1 y2,LeO (iq.l0 k y0 y1 y2) (iq.l0 (k + 1) y0 y1 y2))∧(∀ y0 y1 y2 y3,LeO (iq.l1 k y0 y1 y2 y3) (iq.l1 (k + 1) y0 y1 y2 y3))
 | 0=>⟨fun _ _ _=>LZ,fun _ _ _ _=>LZ⟩
 | k + 1=>by
  obtain ⟨ih0,ih1⟩:=iq.bC k
  refine ⟨?_,?_⟩ <;> intros
  all_goals (first|unfold iq.l0|unfold iq.l1)
  all_goals exact MO
theorem iq.mono : ∀ a0 k,LeO (iq.f k a0) (iq.f (k + 1) a0):=by
 intro a0 k;obtain ⟨ih0,ih1⟩:=iq.bC k;unfold iq.f
 exact MO
theorem iq.calls (k : Nat) (a0 : Int) (r : List (S86)) (w : World) (h : iq.f k a0 = some r) :
  Calls Try.prog 75 #[.int .i64 a0] w fun e w'=>∃ v0_ : Value,e = .returned (v0_)∧Kd.R k86 86 w' w.heap.size (fun _=>True) v0_ r∧Below w.heap.size w w':=by
 have anu:=Try.underlying86;have HB:=HRf w;have H : (iq.l0 k a0 (([] : List (S86))) a0) = some r:=h;clear h;obtain ⟨anv,ado⟩ : ∃ y_ : List (S86),y_ = (([] : List (S86))):=⟨_,rfl⟩;replace H : (iq.l0 k a0 anv a0) = some r:=HY H ado;have alF:=AM ado;clear ado;have H':=AM H;clear H;go_enter Try.func75,Try.ntmps75;go_wp2_with (first|((with_reducible refine dG (N:=6) rfl ?_);refine Kd.pF k86 _ 86 ?hg (N:=6) ?hd (xs:=([] : List (S86))) (inner:=[]) (ok:=fun _=>True) (okp:=fun _=>True) ?hr ?hp (fun _ hk=>hk) trivial (Below.refl _ _) (Nat.le_refl _) (by simp) ?_;(case hd=>rfl);(case hg=>rfl);(case hr=>exact GS);(case hp=>exact (aT.none _ _));intro aGS w2 ho3 hb hg_ eY;clear hg_ eY;(first|rw [← alF.out] at ho3|(simp only [Int.reduceToNat] at ho3;rw [← alF.out] at ho3));have avZ:=AM (Kd.bD ho3 (BZ BB));replace HB:=HS hb;clear hb ho3));go_loopg [3,4] k (fun kq v3 v4 w'=>∃ (dO : List (S86)) (fJ : Int),v4 = .int .i64 fJ∧ak (iq.l0 kq a0 dO fJ = some r)∧ak (kq ≤ k)∧ak (Kd.R k86 86 w' w.heap.size (fun _=>True) v3 dO)∧ak (Below w.heap.size w w'))
 case atStart=>exact ⟨(anv),(a0),RF,H',⟨Nat.le_refl _⟩,⟨KR avZ⟩,⟨BB⟩⟩
 case round =>
  clear H';try clear p2
  obtain ⟨dO,fJ,rfl,HA,HK1,bB,HB⟩:=hrel;cases gk with
  | zero=>exact absurd HA.out (by simp [iq.l0])
  | succ k1 =>
   have H:=HA.out;clear HA;simp only [iq.l0] at H;by_cases c4 : fJ ≥ 0
   ·rw [if_pos c4] at H;have iR:=DT c4;clear c4;have H':=AM H;clear H;go_wp2;go_loopg [3,5] k1 (fun kq v3 v5 w'=>∃ (nT : List (S86)) (eH : Int),v5 = .int .i64 eH∧ak (iq.l1 kq a0 nT fJ eH = some r)∧ak (kq ≤ k1)∧ak (Kd.R k86 86 w' w.heap.size (fun _=>True) v3 nT)∧ak (Below w.heap.size w w'))
    case atStart=>exact ⟨(dO),(wrap64 (a0 - fJ)),RF,H',⟨Nat.le_refl _⟩,⟨KR bB⟩,⟨BB⟩⟩
    case round =>
     clear H';try clear p2
     try clear c4
     try clear iR
     try clear p2
     obtain ⟨nT,eH,rfl,HA,HK2,bB,HB⟩:=hrel;cases gk with
     | zero=>exact absurd HA.out (by simp [iq.l1])
     | succ k2 =>
      have H:=HA.out;clear HA;simp only [iq.l1] at H;by_cases c5 : eH ≥ 0
      ·rw [if_pos c5] at H;have ko:=DT c5;clear c5;replace H:=IC H;obtain ⟨c6,H⟩:=H;have azj:=AM c6;clear c6;obtain ⟨anw,adp⟩ : ∃ y_ : List (S86),y_ = (nT ++ [(⟨fJ,eH,wrap64 ((wrap64 (a0 - fJ)) - eH)⟩ : S86)]):=⟨_,rfl⟩;replace H : (iq.l1 k2 a0 anw fJ (wrap64 (eH - 1))) = some r:=HY H adp;have av0:=AM adp;clear adp;have H':=AM H;clear H;go_wp2_with (first|((with_reducible refine pW (b:=.append) (xs:=#[.tmp 19,.tmp 28]) rfl ?_);at_builtin;refine Kd.qX k86 (w0:=w) w.heap.size rfl (.tmp 19) (.tmp 28) 84 86 (.agg #[(.int .i64 0),(.int .i64 0),(.int .i64 0)]) 24 rfl Try.underlying84 arB rfl (by decide) (by omega) u3 nT (⟨fJ,eH,wrap64 ((wrap64 (a0 - fJ)) - eH)⟩ : S86) [.int .i64 fJ,.int .i64 eH,.int .i64 (wrap64 ((wrap64 (a0 - fJ)) - eH))] (fun _=>True) (fun _=>False) rfl rfl ?aP (fun _ hk=>hk.elim) ?aF ?aO ?aB ?aS ?aL ?_;(case aP=>exact apr _ _ _ (⟨fJ,eH,wrap64 ((wrap64 (a0 - fJ)) - eH)⟩ : S86));(case aB=>exact BB);(case aF=>exact (fun _ _=>trivial));(case aO=>exact (KR bB));(case aS=>exact (BZ BB));(case aL=>have:=azj.out;omega);intro aGT w7 ho hb hg hat;rw [← av0.out] at ho;replace HB:=AM hb;have av1:=AM ho;clear bB;clear ho hb hg hat));go_roundg k2
       case measure=>have:=HK1.out;have:=HK2.out;omega
       case rel=>exact ⟨(anw),(wrap64 (eH - 1)),RF,H',⟨by have:=HK1.out;have:=HK2.out;omega⟩,⟨KR av1⟩,⟨BB⟩⟩
      ·rw [if_neg c5] at H;have ko:=DF c5;clear c5;have H':=AM H;clear H;go_wp2;go_roundg k2
       case measure=>have:=HK1.out;have:=HK2.out;omega
       case rel=>exact ⟨(nT),(wrap64 (fJ - 1)),RF,H',⟨by have:=HK1.out;have:=HK2.out;omega⟩,⟨KR bB⟩,⟨BB⟩⟩
   ·rw [if_neg c4] at H;have iR:=DF c4;clear c4;obtain rfl:=Option.some.inj H;go_wp2;go_ret;exact ⟨_,RE,KR bB,BB⟩

def gL.l0 : Nat→Int→Int→Int→Int→Int→Int→Int→Int→Int→Option (Bool)
 | 0,_,_,_,_,_,_,_,_,_=>none
 | k + 1,x5,x6,x9,IZ,I4,I5,I6,I7,I8=>if x9 < 3 then (if 0 = x9 then (gL.l0 k (wrap64 (x5 + (mx (wrap64 (IZ - I6)) (wrap64 (I6 - IZ))))) (mx x6 (mx (wrap64 (IZ - I6)) (wrap64 (I6 - IZ)))) (wrap64 (x9 + 1)) IZ I4 I5 I6 I7 I8) else (if 1 = x9 then (gL.l0 k (wrap64 (x5 + (mx (wrap64 (I4 - I7)) (wrap64 (I7 - I4))))) (mx x6 (mx (wrap64 (I4 - I7)) (wrap64 (I7 - I4)))) (wrap64 (x9 + 1)) IZ I4 I5 I6 I7 I8) else (if 2 = x9 then (gL.l0 k (wrap64 (x5 + (mx (wrap64 (I5 - I8)) (wrap64 (I8 - I5))))) (mx x6 (mx (wrap64 (I5 - I8)) (wrap64 (I8 - I5)))) (wrap64 (x9 + 1)) IZ I4 I5 I6 I7 I8) else (none)))) else (if x5 = 2 then (some (x6 == 1)) else (some false))
def gL.f (k : Nat) (aC : Int) (kY : Int) (kZ : Int) (oZ : Int) (o7 : Int) (o8 : Int) : Option (Bool):=gL.l0 k 0 0 0 aC kY kZ oZ o7 o8
theorem gL.bC : ∀ k,(∀ y0 y1 y2 y3 y4 y5 y6 y7 y8,LeO (gL.l0 k y0 y1 y2 y3 y4 y5 y6 y7 y8) (gL.l0 (k + 1) y0 y1 y2 y3 y4 y5 y6 y7 y8))
 | 0=>fun _ _ _ _ _ _ _ _ _ r h=>by simp [gL.l0] at h
 | k + 1=>by
  have ih0:=gL.bC k
  ·intro y0 y1 y2 y3 y4 y5 y6 y7 y8
   unfold gL.l0
   exact MO
theorem gL.mono : ∀ a0 a1 a2 a3 a4 a5 k,LeO (gL.f k a0 a1 a2 a3 a4 a5) (gL.f (k + 1) a0 a1 a2 a3 a4 a5):=by
 intro a0 a1 a2 a3 a4 a5 k;have ih0:=gL.bC k;unfold gL.f
 exact MO
theorem gL.calls (k : Nat) (aC : Int) (kY : Int) (kZ : Int) (oZ : Int) (o7 : Int) (o8 : Int) (r : Bool) (w : World) (h : gL.f k aC kY kZ oZ o7 o8 = some r) :
  Calls Try.prog 79 #[.agg #[.int .i64 aC,.int .i64 kY,.int .i64 kZ],.agg #[.int .i64 oZ,.int .i64 o7,.int .i64 o8]] w fun e w'=>e = .returned (.bool r)∧Below w.heap.size w w':=by
 have anu:=Try.underlying86;have HB:=HRf w;have H : (gL.l0 k 0 0 0 aC kY kZ oZ o7 o8) = some r:=h;clear h;have H':=AM H;clear H;go_enter Try.func79,Try.ntmps79;go_wp2_with (first|((with_reducible refine dG (N:=2) rfl ?_);refine gq ?hg (N:=2) ?hd (cs:=#[.int .i64 aC,.int .i64 kY,.int .i64 kZ]) (t:=86) ?hr ?_;(case hd=>rfl);(case hg=>rfl);(case hr=>exact GS);intro lF hg w3 aJ hb;have jT:=AM aJ;have alG:=AM ((by rw [hg];exact (BZ BB) : w.heap.size ≤ lF));have uD:=AM ((by rw [hg];exact (BZ BB) : w.heap.size ≤ lF));replace HB:=HS hb;clear hb aJ hg)|((with_reducible refine dG (N:=3) rfl ?_);refine gq ?hg (N:=3) ?hd (cs:=#[.int .i64 oZ,.int .i64 o7,.int .i64 o8]) (t:=86) ?hr ?_;(case hd=>rfl);(case hg=>rfl);(case hr=>exact GS);intro pK hg w4 aJ hb;have oU:=AM aJ;have alH:=AM ((by rw [hg];exact (BZ (AGE uD)) : w.heap.size ≤ pK));have Gf:=AM ((by rw [hg];exact (BZ (AGE uD)) : w.heap.size ≤ pK));replace HB:=HG uD hb;have PK:=AM ((by rw [hg];exact Nat.ne_of_lt (jH (g:=lF) (o:=.cells #[.int .i64 aC,.int .i64 kY,.int .i64 kZ] 86 (0,0)) (BW jT)) : lF≠pK));have PL:=AM ((by rw [hg];exact Nat.ne_of_gt (jH (g:=lF) (o:=.cells #[.int .i64 aC,.int .i64 kY,.int .i64 kZ] 86 (0,0)) (BW jT)) : pK≠lF));replace jT:=AM (eU (g:=lF) (o:=.cells #[.int .i64 aC,.int .i64 kY,.int .i64 kZ] 86 (0,0)) (BW jT) hb);clear hb aJ hg));repeat (go_quiet (first|((with_reducible refine dG (N:=2) rfl ?_);refine gq ?hg (N:=2) ?hd (cs:=#[.int .i64 aC,.int .i64 kY,.int .i64 kZ]) (t:=86) ?hr ?_;(case hd=>rfl);(case hg=>rfl);(case hr=>exact GS);intro lF hg w3 aJ hb;have jT:=AM aJ;have alG:=AM ((by rw [hg];exact (BZ BB) : w.heap.size ≤ lF));have uD:=AM ((by rw [hg];exact (BZ BB) : w.heap.size ≤ lF));replace HB:=HS hb;clear hb aJ hg)|((with_reducible refine dG (N:=3) rfl ?_);refine gq ?hg (N:=3) ?hd (cs:=#[.int .i64 oZ,.int .i64 o7,.int .i64 o8]) (t:=86) ?hr ?_;(case hd=>rfl);(case hg=>rfl);(case hr=>exact GS);intro pK hg w4 aJ hb;have oU:=AM aJ;have alH:=AM ((by rw [hg];exact (BZ (AGE uD)) : w.heap.size ≤ pK));have Gf:=AM ((by rw [hg];exact (BZ (AGE uD)) : w.heap.size ≤ pK));replace HB:=HG uD hb;have PK:=AM ((by rw [hg];exact Nat.ne_of_lt (jH (g:=lF) (o:=.cells #[.int .i64 aC,.int .i64 kY,.int .i64 kZ] 86 (0,0)) (BW jT)) : lF≠pK));have PL:=AM ((by rw [hg];exact Nat.ne_of_gt (jH (g:=lF) (o:=.cells #[.int .i64 aC,.int .i64 kY,.int .i64 kZ] 86 (0,0)) (BW jT)) : pK≠lF));replace jT:=AM (eU (g:=lF) (o:=.cells #[.int .i64 aC,.int .i64 kY,.int .i64 kZ] 86 (0,0)) (BW jT) hb);clear hb aJ hg));try go_wp2_with (first|((with_reducible refine dG (N:=2) rfl ?_);refine gq ?hg (N:=2) ?hd (cs:=#[.int .i64 aC,.int .i64 kY,.int .i64 kZ]) (t:=86) ?hr ?_;(case hd=>rfl);(case hg=>rfl);(case hr=>exact GS);intro lF hg w3 aJ hb;have jT:=AM aJ;have alG:=AM ((by rw [hg];exact (BZ BB) : w.heap.size ≤ lF));have uD:=AM ((by rw [hg];exact (BZ BB) : w.heap.size ≤ lF));replace HB:=HS hb;clear hb aJ hg)|((with_reducible refine dG (N:=3) rfl ?_);refine gq ?hg (N:=3) ?hd (cs:=#[.int .i64 oZ,.int .i64 o7,.int .i64 o8]) (t:=86) ?hr ?_;(case hd=>rfl);(case hg=>rfl);(case hr=>exact GS);intro pK hg w4 aJ hb;have oU:=AM aJ;have alH:=AM ((by rw [hg];exact (BZ (AGE uD)) : w.heap.size ≤ pK));have Gf:=AM ((by rw [hg];exact (BZ (AGE uD)) : w.heap.size ≤ pK));replace HB:=HG uD hb;have PK:=AM ((by rw [hg];exact Nat.ne_of_lt (jH (g:=lF) (o:=.cells #[.int .i64 aC,.int .i64 kY,.int .i64 kZ] 86 (0,0)) (BW jT)) : lF≠pK));have PL:=AM ((by rw [hg];exact Nat.ne_of_gt (jH (g:=lF) (o:=.cells #[.int .i64 aC,.int .i64 kY,.int .i64 kZ] 86 (0,0)) (BW jT)) : pK≠lF));replace jT:=AM (eU (g:=lF) (o:=.cells #[.int .i64 aC,.int .i64 kY,.int .i64 kZ] 86 (0,0)) (BW jT) hb);clear hb aJ hg)))
 go_loopg [5,6,9] k (fun kq v5 v6 v9 w'=>∃ (fF : Int) (iO : Int) (dS : Int),v5 = .int .i64 fF∧v6 = .int .i64 iO∧v9 = .int .i64 dS∧ak (gL.l0 kq fF iO dS aC kY kZ oZ o7 o8 = some r)∧ak (kq ≤ k)∧ak (w'.heap[lF]? = some (.cells #[.int .i64 aC,.int .i64 kY,.int .i64 kZ] 86 (0,0)))∧ak (w'.heap[pK]? = some (.cells #[.int .i64 oZ,.int .i64 o7,.int .i64 o8] 86 (0,0)))∧ak (Below w.heap.size w w'))
 case atStart=>exact ⟨(0),(0),(0),RF,RF,RF,H',⟨Nat.le_refl _⟩,⟨by (with_reducible repeat (first|refine bZ ?_ _|refine bL ?_|refine bV ?_ _));exact jT.out⟩,⟨by (with_reducible repeat (first|refine bZ ?_ _|refine bL ?_|refine bV ?_ _));exact oU.out⟩,⟨by repeat (first|(with_reducible first|exact HB.out|apply jE|apply kr|apply fA|refine eF ?_ uD.out|refine eF ?_ Gf.out)|exact HB.out)⟩⟩
 case round =>
  clear H';try clear p2
  obtain ⟨fF,iO,dS,rfl,rfl,rfl,HA,HK1,jT,oU,HB⟩:=hrel;cases gk with
  | zero=>exact absurd HA.out (by simp [gL.l0])
  | succ k1 =>
   have H:=HA.out;clear HA;simp only [gL.l0] at H;by_cases c5 : dS < 3
   ·rw [if_pos c5] at H;have ko:=DT c5;clear c5;by_cases c6 : 0 = dS
    ·rw [if_pos c6] at H;have iA : dS = 0:=c6.symm;clear c6;obtain ⟨ji7,YT⟩ : ∃ j_ : Int,(mx (wrap64 (aC - oZ)) (wrap64 (oZ - aC))) = j_:=⟨_,rfl⟩;replace H : (gL.l0 k1 (wrap64 (fF + (ji7))) (mx iO (ji7)) (wrap64 (dS + 1)) aC kY kZ oZ o7 o8) = some r:=by first|(rw [YT] at H;exact H)|(simp only [YT] at H ⊢;exact H)
     have aD5 : (if (wrap64 (aC - oZ)) < (wrap64 (oZ - aC)) then (wrap64 (oZ - aC)) else (wrap64 (aC - oZ))) = ji7:=YT;obtain ⟨ji8,YU⟩ : ∃ j_ : Int,(mx iO (ji7)) = j_:=⟨_,rfl⟩;replace H : (gL.l0 k1 (wrap64 (fF + (ji7))) ji8 (wrap64 (dS + 1)) aC kY kZ oZ o7 o8) = some r:=by first|(rw [YU] at H;exact H)|(simp only [YU] at H ⊢;exact H)
     have aD6 : (if iO < (ji7) then (ji7) else iO) = ji8:=YU;have H':=AM H;clear H;have azk:=PK.out;have azl:=PL.out;have VI : wr.cell? ⟨lF,0,none⟩ = some (.int .i64 aC):=(BC jT.out 0).trans rfl;have VJ : wr.cell? ⟨lF,1,none⟩ = some (.int .i64 kY):=(BC jT.out 1).trans rfl;have VK : wr.cell? ⟨lF,2,none⟩ = some (.int .i64 kZ):=(BC jT.out 2).trans rfl;have VL:=BF jT.out 0;have VN:=BF jT.out 1;have VP:=BF jT.out 2;have Nc : wr.cell? ⟨pK,0,none⟩ = some (.int .i64 oZ):=(BC oU.out 0).trans rfl;have Nf : wr.cell? ⟨pK,1,none⟩ = some (.int .i64 o7):=(BC oU.out 1).trans rfl;have Ng : wr.cell? ⟨pK,2,none⟩ = some (.int .i64 o8):=(BC oU.out 2).trans rfl;have Nh:=BF oU.out 0;have Nl:=BF oU.out 1;have Nn:=BF oU.out 2;go_wp2;repeat (go_quiet (fail);try go_wp2)
     go_roundg k1
     case measure=>have:=HK1.out;omega
     case rel=>exact ⟨(wrap64 (fF + (ji7))),(ji8),(wrap64 (dS + 1)),(by first|rfl|(simp;done)|(simp only [← YT] <;> (first|rfl|simp))|(simp [*];done)|(simp [*,wrap64];done)),(by first|rfl|(simp;done)|(simp only [← YU] <;> (first|rfl|simp))|(simp [*];done)|(simp [*,wrap64];done)),RF,H',⟨by have:=HK1.out;omega⟩,⟨by (with_reducible repeat (first|refine bZ ?_ _|refine bL ?_|refine bV ?_ _));exact jT.out⟩,⟨by (with_reducible repeat (first|refine bZ ?_ _|refine bL ?_|refine bV ?_ _));exact oU.out⟩,⟨by repeat (first|(with_reducible first|exact HB.out|apply jE|apply kr|apply fA|refine eF ?_ uD.out|refine eF ?_ Gf.out)|exact HB.out)⟩⟩
    ·rw [if_neg c6] at H;by_cases c12 : 1 = dS
     ·rw [if_pos c12] at H;have rQ : dS = 1:=c12.symm;clear c12;obtain ⟨Hu,Xl⟩ : ∃ j_ : Int,(mx (wrap64 (kY - o7)) (wrap64 (o7 - kY))) = j_:=⟨_,rfl⟩;replace H : (gL.l0 k1 (wrap64 (fF + (Hu))) (mx iO (Hu)) (wrap64 (dS + 1)) aC kY kZ oZ o7 o8) = some r:=by first|(rw [Xl] at H;exact H)|(simp only [Xl] at H ⊢;exact H)
      have aB0 : (if (wrap64 (kY - o7)) < (wrap64 (o7 - kY)) then (wrap64 (o7 - kY)) else (wrap64 (kY - o7))) = Hu:=Xl;obtain ⟨zI,CP⟩ : ∃ j_ : Int,(mx iO (Hu)) = j_:=⟨_,rfl⟩;replace H : (gL.l0 k1 (wrap64 (fF + (Hu))) zI (wrap64 (dS + 1)) aC kY kZ oZ o7 o8) = some r:=by first|(rw [CP] at H;exact H)|(simp only [CP] at H ⊢;exact H)
      have abG : (if iO < (Hu) then (Hu) else iO) = zI:=CP;have H':=AM H;clear H;have aD7:=PK.out;have aD8:=PL.out;have aA1 : wr.cell? ⟨lF,0,none⟩ = some (.int .i64 aC):=(BC jT.out 0).trans rfl;have aA2 : wr.cell? ⟨lF,1,none⟩ = some (.int .i64 kY):=(BC jT.out 1).trans rfl;have aA3 : wr.cell? ⟨lF,2,none⟩ = some (.int .i64 kZ):=(BC jT.out 2).trans rfl;have aA4:=BF jT.out 0;have aA5:=BF jT.out 1;have aA6:=BF jT.out 2;have aij : wr.cell? ⟨pK,0,none⟩ = some (.int .i64 oZ):=(BC oU.out 0).trans rfl;have aik : wr.cell? ⟨pK,1,none⟩ = some (.int .i64 o7):=(BC oU.out 1).trans rfl;have ail : wr.cell? ⟨pK,2,none⟩ = some (.int .i64 o8):=(BC oU.out 2).trans rfl;have ain:=BF oU.out 0;have aio:=BF oU.out 1;have aip:=BF oU.out 2;go_wp2;repeat (go_quiet (fail);try go_wp2)
      go_roundg k1
      case measure=>have:=HK1.out;omega
      case rel=>exact ⟨(wrap64 (fF + (Hu))),(zI),(wrap64 (dS + 1)),(by first|rfl|(simp;done)|(simp only [← Xl] <;> (first|rfl|simp))|(simp [*];done)|(simp [*,wrap64];done)),(by first|rfl|(simp;done)|(simp only [← CP] <;> (first|rfl|simp))|(simp [*];done)|(simp [*,wrap64];done)),RF,H',⟨by have:=HK1.out;omega⟩,⟨by (with_reducible repeat (first|refine bZ ?_ _|refine bL ?_|refine bV ?_ _));exact jT.out⟩,⟨by (with_reducible repeat (first|refine bZ ?_ _|refine bL ?_|refine bV ?_ _));exact oU.out⟩,⟨by repeat (first|(with_reducible first|exact HB.out|apply jE|apply kr|apply fA|refine eF ?_ uD.out|refine eF ?_ Gf.out)|exact HB.out)⟩⟩
     ·rw [if_neg c12] at H;replace H:=IC H;obtain ⟨c18,H⟩:=H;have zo : dS = 2:=c18.symm;clear c18;obtain ⟨vK,CQ⟩ : ∃ j_ : Int,(mx (wrap64 (kZ - o8)) (wrap64 (o8 - kZ))) = j_:=⟨_,rfl⟩;replace H : (gL.l0 k1 (wrap64 (fF + (vK))) (mx iO (vK)) (wrap64 (dS + 1)) aC kY kZ oZ o7 o8) = some r:=by first|(rw [CQ] at H;exact H)|(simp only [CQ] at H ⊢;exact H)
      have abH : (if (wrap64 (kZ - o8)) < (wrap64 (o8 - kZ)) then (wrap64 (o8 - kZ)) else (wrap64 (kZ - o8))) = vK:=CQ;obtain ⟨agh,Xm⟩ : ∃ j_ : Int,(mx iO (vK)) = j_:=⟨_,rfl⟩;replace H : (gL.l0 k1 (wrap64 (fF + (vK))) agh (wrap64 (dS + 1)) aC kY kZ oZ o7 o8) = some r:=by first|(rw [Xm] at H;exact H)|(simp only [Xm] at H ⊢;exact H)
      have aB1 : (if iO < (vK) then (vK) else iO) = agh:=Xm;have H':=AM H;clear H;have aD9:=PK.out;have aEa:=PL.out;have apD : wr.cell? ⟨lF,0,none⟩ = some (.int .i64 aC):=(BC jT.out 0).trans rfl;have apE : wr.cell? ⟨lF,1,none⟩ = some (.int .i64 kY):=(BC jT.out 1).trans rfl;have apF : wr.cell? ⟨lF,2,none⟩ = some (.int .i64 kZ):=(BC jT.out 2).trans rfl;have apG:=BF jT.out 0;have apH:=BF jT.out 1;have apI:=BF jT.out 2;have aiC : wr.cell? ⟨pK,0,none⟩ = some (.int .i64 oZ):=(BC oU.out 0).trans rfl;have aiD : wr.cell? ⟨pK,1,none⟩ = some (.int .i64 o7):=(BC oU.out 1).trans rfl;have aiE : wr.cell? ⟨pK,2,none⟩ = some (.int .i64 o8):=(BC oU.out 2).trans rfl;have aiF:=BF oU.out 0;have aiG:=BF oU.out 1;have aiH:=BF oU.out 2;go_wp2;repeat (go_quiet (fail);try go_wp2)
      go_roundg k1
      case measure=>have:=HK1.out;omega
      case rel=>exact ⟨(wrap64 (fF + (vK))),(agh),(wrap64 (dS + 1)),(by first|rfl|(simp;done)|(simp only [← CQ] <;> (first|rfl|simp))|(simp [*];done)|(simp [*,wrap64];done)),(by first|rfl|(simp;done)|(simp only [← Xm] <;> (first|rfl|simp))|(simp [*];done)|(simp [*,wrap64];done)),RF,H',⟨by have:=HK1.out;omega⟩,⟨by (with_reducible repeat (first|refine bZ ?_ _|refine bL ?_|refine bV ?_ _));exact jT.out⟩,⟨by (with_reducible repeat (first|refine bZ ?_ _|refine bL ?_|refine bV ?_ _));exact oU.out⟩,⟨by repeat (first|(with_reducible first|exact HB.out|apply jE|apply kr|apply fA|refine eF ?_ uD.out|refine eF ?_ Gf.out)|exact HB.out)⟩⟩
   ·rw [if_neg c5] at H;have ko:=DF c5;clear c5;by_cases c24 : fF = 2
    ·rw [if_pos c24] at H;have F9:=QT c24;have av2:=bne_eq_false_iff_eq.mpr c24;clear c24;obtain rfl:=Option.some.inj H;go_wp2;repeat (go_quiet (fail);try go_wp2)
     go_ret;exact ⟨RE,by repeat (first|(with_reducible first|exact HB.out|apply jE|apply kr|apply fA|refine eF ?_ uD.out|refine eF ?_ Gf.out)|exact HB.out)⟩
    ·rw [if_neg c24] at H;have F9:=beq_eq_false_iff_ne.mpr c24;have av2:=bne_iff_ne.mpr c24;obtain rfl:=Option.some.inj H;go_wp2;repeat (go_quiet (fail);try go_wp2)
     go_ret;exact ⟨RE,by repeat (first|(with_reducible first|exact HB.out|apply jE|apply kr|apply fA|refine eF ?_ uD.out|refine eF ?_ Gf.out)|exact HB.out)⟩

end Go.Proofs.Ythaonijhfeemfaa.dL
