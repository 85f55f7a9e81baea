-- Written by a program of this session (wip/tools/pp.sh) out of the translation; Lean checks it.
import Derived.Test.YtlolkkfpfjlhmaaPFnOppositeEdgesFoundx6
namespace Go.Proofs.Ytlolkkfpfjlhmaa.PFnOppositeEdgesFound
open Go.RowKit Go.Proofs.YtlolkkfpfjlhmaaOwn Go.Proofs.YtlolkkfpfjlhmaaW.PrintWords Go.Proofs.YtlolkkfpfjlhmaaW.PrintLast Go.Proofs.YtlolkkfpfjlhmaaW.PrintMore
attribute [local go_sem] max2_int min2_int max_two min_two max_three min_three max_four min_four   -- for this text's walks alone
set_option linter.unusedVariables false
set_option maxHeartbeats 8000000
set_option maxRecDepth 100000
set_option linter.unusedSimpArgs false

/-! ### slices_Contains_int_int: function 75 -/
def slices_Contains_int_int.f (k : Nat) (l0 : List Int) (a1 : Int) : Option (Bool):=(slices_Index_int_int.f k l0 a1).bind fun t299=>(some (decide (t299 ≥ 0)))
theorem slices_Contains_int_int.mono : ∀ a0 a1 k,LeO (slices_Contains_int_int.f k a0 a1) (slices_Contains_int_int.f (k + 1) a0 a1):=by
 intro a0 a1 k;unfold slices_Contains_int_int.f
 have m0:=@slices_Index_int_int.mono
 exact MO
theorem slices_Contains_int_int.calls (k : Nat) (A0 : Option Addr) (c0 : Nat) (l0 : List Int) (a1 : Int) (r : Bool) (w : World) (hr0 : Kd.C (Kd.int .i64) w A0 l0.length l0) (hc0 : l0.length ≤ c0) (h : slices_Contains_int_int.f k l0 a1 = some r) :
  Calls Try.prog 75 #[.slice A0 l0.length c0,.int .i64 a1] w fun e w'=>e = .returned (.bool r)∧Drawn0 w w':=by
 have HR0:=AM hr0;have HC0:=AM hc0;clear hr0 hc0;have H : ((slices_Index_int_int.f k l0 a1).bind fun t299=>(some (decide (t299 ≥ 0)))) = some r:=h;clear h;replace H:=EA H;obtain ⟨t299,A3,H⟩:=H;obtain rfl:=Option.some.inj H;go_enter Try.func75,Try.ntmps75;go_wp2_with (first|(refine GC 77 ?_;refine GM (some 7) Try.func77 (slices_Index_int_int.calls k _ _ l0 a1 t299 _ (CW HR0.out) HC0.out A3.out) ?_;rintro e w' ⟨rfl,⟨nd,rfl⟩⟩;refine ⟨_,rfl,?_⟩));go_ret;exact ⟨RF,DR⟩

/-! ### impl_with: function 54 -/
def impl_with.l0 : Nat→Int→Int→List Int→List (List Int)→Int→Int→Option (List Int)
 | 0,_,_,_,_,_,_=>none
 | k + 1,x1,x2,x7,x11,x12,x13=>if x13 < x12 then (if 0 ≤ x13 then (if x13 < (x11.length : Int) then ((slices_Contains_int_int.f k (rd_L2 x11 x13) x1).bind fun t304=>(if t304 = true then ((slices_Contains_int_int.f k (rd_L2 x11 x13) x2).bind fun t305=>(if t305 = true then (if x7.length < 17592186044416 then (impl_with.l0 k x1 x2 (x7 ++ [x13]) x11 x12 (wrap64 (x13 + 1))) else (none)) else (impl_with.l0 k x1 x2 x7 x11 x12 (wrap64 (x13 + 1))))) else (impl_with.l0 k x1 x2 x7 x11 x12 (wrap64 (x13 + 1))))) else (none)) else (none)) else (some x7)
def impl_with.f (k : Nat) (l0 : List (List Int)) (a1 : Int) (a2 : Int) : Option (List Int):=impl_with.l0 k a1 a2 (([] : List Int)) l0 (l0.length : Int) 0
theorem impl_with.mono_l : ∀ k,(∀ y0 y1 y2 y3 y4 y5,LeO (impl_with.l0 k y0 y1 y2 y3 y4 y5) (impl_with.l0 (k + 1) y0 y1 y2 y3 y4 y5))
 | 0=>fun _ _ _ _ _ _ r h=>by simp [impl_with.l0] at h
 | k + 1=>by
  have ih0:=impl_with.mono_l k
  ·intro y0 y1 y2 y3 y4 y5
   unfold impl_with.l0
   have m0:=@slices_Contains_int_int.mono
   exact MO
theorem impl_with.mono : ∀ a0 a1 a2 k,LeO (impl_with.f k a0 a1 a2) (impl_with.f (k + 1) a0 a1 a2):=by
 intro a0 a1 a2 k;have ih0:=impl_with.mono_l k;unfold impl_with.f
 have m0:=@slices_Contains_int_int.mono
 exact MO
theorem impl_with.calls (k : Nat) (A0 : Option Addr) (c0 : Nat) (l0 : List (List Int)) (a1 : Int) (a2 : Int) (r : List Int) (w : World) (hr0 : Kd.C (Kd.slice 3 (Kd.int .i64)) w A0 l0.length l0) (hc0 : l0.length ≤ c0) (h : impl_with.f k l0 a1 a2 = some r) :
  Calls Try.prog 54 #[.slice A0 l0.length c0,.int .i64 a1,.int .i64 a2] w fun e w'=>∃ v0_ : Value,e = .returned (v0_)∧Kd.R (Kd.int .i64) 3 w' w.heap.size (fun _=>True) v0_ r∧Below w.heap.size w w':=by
 have HR0:=AM hr0;have HC0:=AM hc0;clear hr0 hc0;have HB:=HRf w;have H : (impl_with.l0 k a1 a2 (([] : List Int)) l0 (l0.length : Int) 0) = some r:=h;clear h;obtain ⟨y300,hy300⟩ : ∃ y_ : List Int,y_ = (([] : List Int)):=⟨_,rfl⟩;replace H : (impl_with.l0 k a1 a2 y300 l0 (l0.length : Int) 0) = some r:=HY H hy300;have Ny300:=AM hy300;clear hy300;have H':=AM H;clear H;go_enter Try.func54,Try.ntmps54;go_wp2_with (first|((with_reducible refine gate_dst (N:=10) rfl ?_);refine Kd.R_lit (Kd.int .i64) _ 3 ?hg (N:=10) ?hd (xs:=([] : List Int)) (inner:=[]) (ok:=fun _=>True) (okp:=fun _=>True) ?hr ?hp (fun _ hk=>hk) trivial (Below.refl _ _) (Nat.le_refl _) (by simp) ?_;(case hd=>rfl);(case hg=>rfl);(case hr=>exact GS);(case hp=>exact (Reps.none _ _));intro v301 w4 ho5 hb hg_ hnew_;clear hg_ hnew_;(first|rw [← Ny300.out] at ho5|(simp only [Int.reduceToNat] at ho5;rw [← Ny300.out] at ho5));have HO302:=AM (Kd.R_lower ho5 (BZ BB));replace HB:=HS hb;clear hb ho5));go_loopg [7,13] k (fun kq v7 v13 w'=>∃ (x7_1 : List Int) (x13_1 : Int),v13 = .int .i64 x13_1∧Aside0 (impl_with.l0 kq a1 a2 x7_1 l0 (l0.length : Int) x13_1 = some r)∧Aside0 (kq ≤ k)∧Aside0 (Kd.R (Kd.int .i64) 3 w' w.heap.size (fun _=>True) v7 x7_1)∧Aside0 (Below w.heap.size w w'))
 case atStart=>exact ⟨(y300),(0),RF,H',⟨Nat.le_refl _⟩,⟨KR HO302⟩,⟨BB⟩⟩
 case round =>
  clear H';try clear p2
  try clear c5
  obtain ⟨x7_1,x13_1,rfl,HA,HK1,HO_7,HB⟩:=hrel;cases gk with
  | zero=>exact absurd HA.out (by simp [impl_with.l0])
  | succ k1 =>
   have H:=HA.out;clear HA;simp only [impl_with.l0] at H;by_cases c6 : x13_1 < (l0.length : Int)
   ·rw [if_pos c6] at H;have c6b0:=DT c6;clear c6;replace H:=IC H;obtain ⟨c7,H⟩:=H;have c7b0:=DT c7;clear c7;replace H:=IC H;obtain ⟨c8,H⟩:=H;have c8b0:=DT c8;clear c8;replace H:=EA H;obtain ⟨t304,A9,H⟩:=H;by_cases c10 : t304 = true
    ·subst c10;replace H:=IP H;replace H:=EA H;obtain ⟨t305,A11,H⟩:=H;by_cases c12 : t305 = true
     ·subst c12;replace H:=IP H;replace H:=IC H;obtain ⟨c13,H⟩:=H;have LMc13:=AM c13;clear c13;obtain ⟨y306,hy306⟩ : ∃ y_ : List Int,y_ = (x7_1 ++ [x13_1]):=⟨_,rfl⟩;replace H : (impl_with.l0 k1 a1 a2 y306 l0 (l0.length : Int) (wrap64 (x13_1 + 1))) = some r:=HY H hy306;have Ny306:=AM hy306;clear hy306;have H':=AM H;clear H;have p303 : 0 ≤ (x13_1 : Int):=OD AS;have q303 : x13_1 < (l0.length : Int):=OD AS;obtain ⟨ad303,A303_0,c303_0,e303,hx303_0,hl303_0,hi303_0⟩:=at_L2 HR0.out x13_1 p303 q303;cases e303;try (replace hx303_0:=LC hx303_0)
      have HR303_0:=AM hi303_0;have HC303_0:=AM hl303_0;clear hi303_0 hl303_0;replace p303:=ET p303;replace q303:=ET q303;go_wp2_with (first|(refine GC 75 ?_;refine GM (some 20) Try.func75 (slices_Contains_int_int.calls k1 _ _ (rd_L2 l0 x13_1) a1 true _ ?side1 ?side2 A9.out) ?_;(case side1=>exact CW (Kd.C_below HR303_0.out HB.out));(case side2=>exact HC303_0.out);rintro e w' ⟨rfl,⟨nd,rfl⟩⟩;refine ⟨_,rfl,?_⟩)|(go_at_call 75;(with_reducible refine (slices_Contains_int_int.calls k1 _ _ (rd_L2 l0 x13_1) a2 true _ ?side1 ?side2 A11.out).mono ?_);(case side1=>exact CW (Kd.C_below HR303_0.out BB));(case side2=>exact HC303_0.out);rintro e w' ⟨rfl,⟨nd,rfl⟩⟩)|((with_reducible refine gate_builtin (b:=.append) (xs:=#[.tmp 26,.tmp 28]) rfl ?_);at_builtin;refine Kd.R_append (Kd.int .i64) (w0:=w) w.heap.size rfl (.tmp 26) (.tmp 28) 24 3 (.int .i64 0) 8 rfl Try.underlying24 info3 rfl (by decide) (by omega) u7 x7_1 x13_1 [.int .i64 x13_1] (fun _=>True) (fun _=>False) rfl rfl ?aP (fun _ hk=>hk.elim) ?aF ?aO ?aB ?aS ?aL ?_;(case aP=>exact rfl);(case aB=>exact BB);(case aF=>exact (fun _ _=>trivial));(case aO=>exact (KR HO_7));(case aS=>exact (BZ BB));(case aL=>have:=LMc13.out;omega);intro v307 w14 ho hb hg hat;rw [← Ny306.out] at ho;replace HB:=AM hb;have HO308:=AM ho;clear HO_7;clear ho hb hg hat));go_roundg k1
      case measure=>have:=HK1.out;omega
      case rel=>exact ⟨(y306),(wrap64 (x13_1 + 1)),RF,H',⟨by have:=HK1.out;omega⟩,⟨KR HO308⟩,⟨BB⟩⟩
     ·replace c12:=NF c12;subst c12;replace H:=IN H;have H':=AM H;clear H;have p303 : 0 ≤ (x13_1 : Int):=OD AS;have q303 : x13_1 < (l0.length : Int):=OD AS;obtain ⟨ad303,A303_0,c303_0,e303,hx303_0,hl303_0,hi303_0⟩:=at_L2 HR0.out x13_1 p303 q303;cases e303;try (replace hx303_0:=LC hx303_0)
      have HR303_0:=AM hi303_0;have HC303_0:=AM hl303_0;clear hi303_0 hl303_0;replace p303:=ET p303;replace q303:=ET q303;go_wp2_with (first|(refine GC 75 ?_;refine GM (some 20) Try.func75 (slices_Contains_int_int.calls k1 _ _ (rd_L2 l0 x13_1) a1 true _ ?side1 ?side2 A9.out) ?_;(case side1=>exact CW (Kd.C_below HR303_0.out HB.out));(case side2=>exact HC303_0.out);rintro e w' ⟨rfl,⟨nd,rfl⟩⟩;refine ⟨_,rfl,?_⟩)|(go_at_call 75;(with_reducible refine (slices_Contains_int_int.calls k1 _ _ (rd_L2 l0 x13_1) a2 false _ ?side1 ?side2 A11.out).mono ?_);(case side1=>exact CW (Kd.C_below HR303_0.out BB));(case side2=>exact HC303_0.out);rintro e w' ⟨rfl,⟨nd,rfl⟩⟩));go_roundg k1
      case measure=>have:=HK1.out;omega
      case rel=>exact ⟨(x7_1),(wrap64 (x13_1 + 1)),RF,H',⟨by have:=HK1.out;omega⟩,⟨KR HO_7⟩,⟨BB⟩⟩
    ·replace c10:=NF c10;subst c10;replace H:=IN H;have H':=AM H;clear H;have p303 : 0 ≤ (x13_1 : Int):=OD AS;have q303 : x13_1 < (l0.length : Int):=OD AS;obtain ⟨ad303,A303_0,c303_0,e303,hx303_0,hl303_0,hi303_0⟩:=at_L2 HR0.out x13_1 p303 q303;cases e303;try (replace hx303_0:=LC hx303_0)
     have HR303_0:=AM hi303_0;have HC303_0:=AM hl303_0;clear hi303_0 hl303_0;replace p303:=ET p303;replace q303:=ET q303;go_wp2_with (first|(refine GC 75 ?_;refine GM (some 20) Try.func75 (slices_Contains_int_int.calls k1 _ _ (rd_L2 l0 x13_1) a1 false _ (CW (Kd.C_below HR303_0.out HB.out)) HC303_0.out A9.out) ?_;rintro e w' ⟨rfl,⟨nd,rfl⟩⟩;refine ⟨_,rfl,?_⟩));go_roundg k1
     case measure=>have:=HK1.out;omega
     case rel=>exact ⟨(x7_1),(wrap64 (x13_1 + 1)),RF,H',⟨by have:=HK1.out;omega⟩,⟨KR HO_7⟩,⟨BB⟩⟩
   ·rw [if_neg c6] at H;have c6b0:=DF c6;clear c6;obtain rfl:=Option.some.inj H;go_wp2;go_ret;exact ⟨_,RE,KR HO_7,BB⟩

/-! ### impl_third: function 56 -/
def impl_third.l0 : Nat→Int→Int→List Int→Int→Int→Option (Int)
 | 0,_,_,_,_,_=>none
 | k + 1,x1,x2,x9,x10,x11=>if x11 < x10 then (if 0 ≤ x11 then (if x11 < (x9.length : Int) then (if (rd x9 x11) = x1 then (impl_third.l0 k x1 x2 x9 x10 (wrap64 (x11 + 1))) else (if (rd x9 x11) = x2 then (impl_third.l0 k x1 x2 x9 x10 (wrap64 (x11 + 1))) else (some (rd x9 x11)))) else (none)) else (none)) else (some (-1))
def impl_third.f (k : Nat) (l0 : List Int) (a1 : Int) (a2 : Int) : Option (Int):=impl_third.l0 k a1 a2 l0 (l0.length : Int) 0
theorem impl_third.mono_l : ∀ k,(∀ y0 y1 y2 y3 y4,LeO (impl_third.l0 k y0 y1 y2 y3 y4) (impl_third.l0 (k + 1) y0 y1 y2 y3 y4))
 | 0=>fun _ _ _ _ _ r h=>by simp [impl_third.l0] at h
 | k + 1=>by
  have ih0:=impl_third.mono_l k
  ·intro y0 y1 y2 y3 y4
   unfold impl_third.l0
   exact MO
theorem impl_third.mono : ∀ a0 a1 a2 k,LeO (impl_third.f k a0 a1 a2) (impl_third.f (k + 1) a0 a1 a2):=by
 intro a0 a1 a2 k;have ih0:=impl_third.mono_l k;unfold impl_third.f
 exact MO
theorem impl_third.calls (k : Nat) (A0 : Option Addr) (c0 : Nat) (l0 : List Int) (a1 : Int) (a2 : Int) (r : Int) (w : World) (hr0 : Kd.C (Kd.int .i64) w A0 l0.length l0) (hc0 : l0.length ≤ c0) (h : impl_third.f k l0 a1 a2 = some r) :
  Calls Try.prog 56 #[.slice A0 l0.length c0,.int .i64 a1,.int .i64 a2] w fun e w'=>e = .returned (.int .i64 r)∧Drawn0 w w':=by
 have HR0:=AM hr0;have HC0:=AM hc0;clear hr0 hc0;have H : (impl_third.l0 k a1 a2 l0 (l0.length : Int) 0) = some r:=h;clear h;have H':=AM H;clear H;go_enter Try.func56,Try.ntmps56;go_wp2;go_loopg [11] k (fun kq v11 w'=>∃ (x11_1 : Int),v11 = .int .i64 x11_1∧Aside0 (impl_third.l0 kq a1 a2 l0 (l0.length : Int) x11_1 = some r)∧Aside0 (kq ≤ k)∧Drawn0 w w')
 case atStart=>exact ⟨(0),RF,H',⟨Nat.le_refl _⟩,by repeat (first|exact Drawn0.refl _|apply Drawn0.step)⟩
 case round =>
  clear H';try clear p2
  obtain ⟨x11_1,rfl,HA,HK1,⟨m1,rfl⟩⟩:=hrel;cases gk with
  | zero=>exact absurd HA.out (by simp [impl_third.l0])
  | succ k1 =>
   have H:=HA.out;clear HA;simp only [impl_third.l0] at H;by_cases c4 : x11_1 < (l0.length : Int)
   ·rw [if_pos c4] at H;have c4b0:=DT c4;clear c4;replace H:=IC H;obtain ⟨c5,H⟩:=H;have c5b0:=DT c5;clear c5;replace H:=IC H;obtain ⟨c6,H⟩:=H;have c6b0:=DT c6;clear c6;by_cases c7 : (rd l0 x11_1) = a1
    ·rw [if_pos c7] at H;have c7b0:=QT c7;have c7b1:=bne_eq_false_iff_eq.mpr c7;clear c7;have H':=AM H;clear H;have p309 : 0 ≤ (x11_1 : Int):=OD AS;have q309 : x11_1 < (l0.length : Int):=OD AS;obtain ⟨ad309,e309,hx309_0⟩:=Kd.at_int HR0.out x11_1 p309 q309;cases e309;replace p309:=ET p309;replace q309:=ET q309;go_wp2;go_roundg k1
     case measure=>have:=HK1.out;omega
     case rel=>exact ⟨(wrap64 (x11_1 + 1)),RF,H',⟨by have:=HK1.out;omega⟩,by repeat (first|exact Drawn0.refl _|apply Drawn0.step)⟩
    ·rw [if_neg c7] at H;have c7b0:=beq_eq_false_iff_ne.mpr c7;have c7b1:=bne_iff_ne.mpr c7;by_cases c8 : (rd l0 x11_1) = a2
     ·rw [if_pos c8] at H;have c8b0:=QT c8;have c8b1:=bne_eq_false_iff_eq.mpr c8;clear c8;have H':=AM H;clear H;have p309 : 0 ≤ (x11_1 : Int):=OD AS;have q309 : x11_1 < (l0.length : Int):=OD AS;obtain ⟨ad309,e309,hx309_0⟩:=Kd.at_int HR0.out x11_1 p309 q309;cases e309;replace p309:=ET p309;replace q309:=ET q309;go_wp2;go_roundg k1
      case measure=>have:=HK1.out;omega
      case rel=>exact ⟨(wrap64 (x11_1 + 1)),RF,H',⟨by have:=HK1.out;omega⟩,by repeat (first|exact Drawn0.refl _|apply Drawn0.step)⟩
     ·rw [if_neg c8] at H;have c8b0:=beq_eq_false_iff_ne.mpr c8;have c8b1:=bne_iff_ne.mpr c8;obtain rfl:=Option.some.inj H;have p309 : 0 ≤ (x11_1 : Int):=OD AS;have q309 : x11_1 < (l0.length : Int):=OD AS;obtain ⟨ad309,e309,hx309_0⟩:=Kd.at_int HR0.out x11_1 p309 q309;cases e309;replace p309:=ET p309;replace q309:=ET q309;go_wp2;go_ret;exact ⟨RF,DR⟩
   ·rw [if_neg c4] at H;have c4b0:=DF c4;clear c4;obtain rfl:=Option.some.inj H;go_wp2;go_ret;exact ⟨RF,DR⟩

/-! ### impl_squareWalk_1: function 55 -/
def impl_squareWalk_1.f (a0 : Int) (l1 : List Int) : Option (Bool):=if 0 < (l1.length : Int) then (some (a0 == (rd l1 0))) else (none)
theorem impl_squareWalk_1.calls (a0 : Int) (A1 : Option Addr) (c1 : Nat) (l1 : List Int) (r : Bool) (w : World) (hr1 : Kd.C (Kd.int .i64) w A1 l1.length l1) (hc1 : l1.length ≤ c1) (h : impl_squareWalk_1.f a0 l1 = some r) :
  Calls Try.prog 55 #[.int .i64 a0,.pointer A1] w fun e w'=>e = .returned (.bool r)∧Drawn0 w w':=by
 have HR1:=AM hr1;have HC1:=AM hc1;clear hr1 hc1;have H : (if 0 < (l1.length : Int) then (some (a0 == (rd l1 0))) else (none)) = some r:=h;clear h;replace H:=IC H;obtain ⟨c3,H⟩:=H;have c3b0:=DT c3;have c3b1 : decide (0 < l1.length) = true:=DT (by omega);clear c3;obtain rfl:=Option.some.inj H;have p310 : 0 ≤ (0 : Int):=(by omega);have q310 : 0 < (l1.length : Int):=OD AS;obtain ⟨ad310,e310,hx310_0⟩:=Kd.at_int HR1.out 0 p310 q310;cases e310;have qi310 : (0 < l1.length) = True:=ET (by omega)
 (try rw [show ((0 : Int)).toNat = 0 from rfl] at hx310_0)
 (try rw [Addr.add_zero'] at hx310_0);replace p310:=ET p310;replace q310:=ET q310;go_enter Try.func55,Try.ntmps55;go_wp2;go_ret;exact ⟨RF,DR⟩

/-! ### impl_squareWalk: function 26 (given) -/
def impl_squareWalk.l0 : Nat→List Int→List (List Int)→List Int→Int→Int→Int→Option (List Int × Int)
 | 0,_,_,_,_,_,_=>none
 | k + 1,L,C,out,last,i,j=>(impl_with.f k C i j).bind fun t=>if 0 < t.length∧t.length ≤ 9223372036854775807 then
   (if (t.filter fun x=>!(x == last)).length = 0 then some (out,-1) else
    if 0 ≤ rd (t.filter fun x=>!(x == last)) 0∧rd (t.filter fun x=>!(x == last)) 0 < (C.length : Int)∧out.length < 17592186044416 then
     (impl_third.f k (rd_L2 C (rd (t.filter fun x=>!(x == last)) 0)) i j).bind fun q =>
      if 0 ≤ q∧q < (L.length : Int)∧0 ≤ i∧i < (L.length : Int)∧0 ≤ j∧j < (L.length : Int) then
       (if rd L q = rd L i then impl_squareWalk.l0 k L C (out ++ [rd (t.filter fun x=>!(x == last)) 0]) (rd (t.filter fun x=>!(x == last)) 0) q j else
        if rd L q = rd L j then impl_squareWalk.l0 k L C (out ++ [rd (t.filter fun x=>!(x == last)) 0]) (rd (t.filter fun x=>!(x == last)) 0) i q else
         some (out ++ [rd (t.filter fun x=>!(x == last)) 0],rd (t.filter fun x=>!(x == last)) 0))
      else none
    else none)
  else none
def impl_squareWalk.f (k : Nat) (l0 : List Int) (l1 : List (List Int)) (a2 : Int) (a3 : Int) : Option (List Int × Int):=impl_squareWalk.l0 k l0 l1 [] (-1) a2 a3
theorem impl_squareWalk.mono_l : ∀ k y0 y1 y2 y3 y4 y5,LeO (impl_squareWalk.l0 k y0 y1 y2 y3 y4 y5) (impl_squareWalk.l0 (k + 1) y0 y1 y2 y3 y4 y5)
 | 0=>fun _ _ _ _ _ _ r h=>by simp [impl_squareWalk.l0] at h
 | k + 1=>by
  have ih0:=impl_squareWalk.mono_l k
  intro y0 y1 y2 y3 y4 y5
  unfold impl_squareWalk.l0
  have m0:=@impl_with.mono
  have m1:=@impl_third.mono
  exact MO
theorem impl_squareWalk.mono : ∀ a0 a1 a2 a3 k,LeO (impl_squareWalk.f k a0 a1 a2 a3) (impl_squareWalk.f (k + 1) a0 a1 a2 a3):=fun _ _ _ _ _=>impl_squareWalk.mono_l _ _ _ _ _ _ _
/-- The closure: is a cell the last one? -/
theorem impl_squareWalk.cl {w2 : World} {gb : Nat} {last : Int} {v : Value} (hX : w2.heap[gb]? = some (.cells #[.int .i64 last] 3 (0,0))) (hv : some gb≠v.ownBlock) :
  ∀ (x : Int) (W : World),W.os = w2.os→W.tape = w2.tape→W.output = w2.output→Kept w2 W (fun k=>some k = v.ownBlock)→Calls Try.prog 55 (#[.int .i64 x] ++ #[.pointer (some ⟨gb,0,none⟩)]) W fun e W'=>e = .returned (.bool (x == last))∧∃ n,W' = W.drewN n:=by
 intro x W hos htp hout hK;have hgb : gb < w2.heap.size:=blk_lt hX;have hX2 : W.heap[gb]? = some (.cells #[.int .i64 last] 3 (0,0)):=(hK.2 gb hgb hv).trans hX;show Calls Try.prog 55 #[.int .i64 x,.pointer (some ⟨gb,0,none⟩)] W _;refine (impl_squareWalk_1.calls x (some ⟨gb,0,none⟩) 1 [last] (x == last) W (Kd.C_box (Kd.int .i64) hX2 rfl) (Nat.le_refl _) (by unfold impl_squareWalk_1.f;rw [if_pos (by simp)];rfl)).mono ?_;rintro e W' ⟨rfl,⟨nd,rfl⟩⟩;exact ⟨rfl,nd,rfl⟩
/-- What stands behind slices.DeleteFunc. -/
theorem impl_squareWalk.after {wr w2 w3 : World} {v : Value} (hb : Below wr.heap.size wr w2) (hv : ∀ q,v.ownBlock = some q→wr.heap.size ≤ q) (hos : w3.os = w2.os) (htp : w3.tape = w2.tape) (hout : w3.output = w2.output) (hK : Kept w2 w3 (fun k=>some k = v.ownBlock)) : Below wr.heap.size wr w3 :=
 ⟨hos.trans hb.os,htp.trans hb.tape,hout.trans hb.output,Nat.le_trans hb.size hK.1,fun q hq=>(hK.2 q (Nat.lt_of_lt_of_le hq hb.size) (fun e=>by have:=hv q e.symm;omega)).trans (hb.block q hq)⟩
theorem impl_squareWalk.calls (k : Nat) (A0 : Option Addr) (c0 : Nat) (l0 : List Int) (A1 : Option Addr) (c1 : Nat) (l1 : List (List Int)) (a2 : Int) (a3 : Int) (r1 : List Int) (r2 : Int) (w : World) (hr0 : Kd.C (Kd.int .i64) w A0 l0.length l0) (hc0 : l0.length ≤ c0) (hr1 : Kd.C (Kd.slice 3 (Kd.int .i64)) w A1 l1.length l1) (hc1 : l1.length ≤ c1) (h : impl_squareWalk.f k l0 l1 a2 a3 = some (r1,r2)) :
  Calls Try.prog 26 #[.slice A0 l0.length c0,.slice A1 l1.length c1,.int .i64 a2,.int .i64 a3] w fun e w'=>∃ v0_ : Value,e = .returned (.tuple #[v0_,.int .i64 r2])∧Kd.R (Kd.int .i64) 3 w' w.heap.size (fun _=>True) v0_ r1∧Below w.heap.size w w':=by
 have HR0:=AM hr0;have HC0:=AM hc0;have HR1:=AM hr1;have HC1:=AM hc1;clear hr0 hc0 hr1 hc1;have H':=AM (show impl_squareWalk.l0 k l0 l1 [] (-1) a2 a3 = some (r1,r2) from h);clear h;have eg : ∀ args w,(callFunc 55 args).run Try.prog w = .ok (.enter 55 args) w:=Go.Proofs.enters_of Try.func55 (by kernel_rfl) rfl;have HEG:=AM eg;clear eg;go_enter Try.func26,Try.ntmps26
 go_wp2_with (first
  | ((with_reducible refine gate_dst (N:=14) rfl ?_);refine Kd.R_lit (Kd.int .i64) w.heap.size 3 ?hg (N:=14) ?hd (xs:=([] : List Int)) (inner:=[]) (ok:=fun _=>True) (okp:=fun _=>True) ?hr ?hp (fun _ hk=>hk) trivial (Below.refl _ _) (Nat.le_refl _) (by simp) ?_;(case hd=>rfl);(case hg=>rfl);(case hr=>exact GS);(case hp=>exact (Reps.none _ _));intro v1 w1 ho hb hg_ hnew_;clear hg_ hnew_;have HO1:=AM ho;have HB1:=AM hb;clear ho hb)
  | ((with_reducible refine gate_dst (N:=11) rfl ?_);refine box_event ?hg (N:=11) ?hd (cs:=#[.int .i64 0]) (t:=3) ?hr ?_;(case hd=>rfl);(case hg=>rfl);(case hr=>exact GS);intro gb hg w2 hbox hb;have HX2:=AM hbox;have HG:=AM (show w.heap.size ≤ gb by rw [hg];exact HB1.out.size);have HO2:=AM (Kd.R_mono (ok':=fun k_=>k_≠gb) (Kd.R_elder' (v:=.slice (some ⟨gb,0,none⟩) 1 1) HO1.out (fun q hq=>by cases hq;exact Nat.le_of_eq hg.symm) hb) (fun k_ hk e_=>hk.2 (by rw [e_];rfl)));have HB2:=AM (below_step HB1.out hb);have z0 : w2.cell? ⟨gb,0,none⟩ = some (.int .i64 0):=(BC hbox 0).trans rfl;have z1 : w2.frozen? ⟨gb,0,none⟩ = false:=BF hbox 0;clear hbox hb hg HO1 HB1)
  | ((with_reducible refine gate_store (t:=3) (p:=11) rfl ?_);refine store_event (t:=3) (p:=11) (v:=.const (.int .i64 (-1))) (w1:=w2.setCell ⟨gb,0,none⟩ (.int .i64 (-1))) ?hg ?ho ?hn ?hr ?_;(case ho=>rfl);(case hg=>rfl);(case hn=>rfl);(case hr=>exact GS);intro w3 hw;have HX:=AM (show w3.heap[gb]? = some (.cells #[.int .i64 (-1)] 3 (0,0)) by rw [hw];exact blk_set HX2.out 0 _);have HO:=AM (show Kd.R (Kd.int .i64) 3 w3 w.heap.size (fun k_=>k_≠gb) v1 [] by rw [hw];exact Kd.R_far HO2.out (fun _ hk=>hk) _);have HB:=AM (show Below w.heap.size w w3 by rw [hw];exact below_set HB2.out HG.out);clear hw HX2 HO2 HB2 z0 z1))
 go_loopg [2,3,10] k (fun kq v2 v3 v10 w'=>∃ (i j last : Int) (out : List Int),v2 = .int .i64 i∧v3 = .int .i64 j∧Aside0 (impl_squareWalk.l0 kq l0 l1 out last i j = some (r1,r2))∧Aside0 (kq ≤ k)∧Aside0 (w'.heap[gb]? = some (.cells #[.int .i64 last] 3 (0,0)))∧Aside0 (Kd.R (Kd.int .i64) 3 w' w.heap.size (fun k_=>k_≠gb) v10 out)∧Aside0 (Below w.heap.size w w'))
 case atStart=>exact ⟨a2,a3,-1,[],rfl,rfl,H',⟨Nat.le_refl _⟩,HX,HO,HB⟩
 case round =>
  clear H' HX HO HB;obtain ⟨i,j,last,out,rfl,rfl,HA,HK,HX,HO,HB⟩:=hrel;cases gk with
  | zero=>exact absurd HA.out (by simp [impl_squareWalk.l0])
  | succ k1 =>
   have H:=HA.out;clear HA;rw [impl_squareWalk.l0] at H;obtain ⟨t,ht,H⟩:=Option.bind_eq_some_iff.mp H;have HT:=AM ht;clear ht;by_cases ct : 0 < t.length∧t.length ≤ 9223372036854775807
   ·replace H:=(if_pos ct).symm.trans H;have CT:=AM ct;clear ct;obtain ⟨nx,hnx⟩ : ∃ nx : List Int,nx = t.filter fun x=>!(x == last):=⟨_,rfl⟩
    rw [← hnx] at H;have NX:=AM hnx;clear hnx;have HXr:=HX;by_cases cz : nx.length = 0
    ·rw [if_pos cz] at H;have HE:=AM (Option.some.inj H);have cz0 : ((nx.length : Int) == 0) = true:=by rw [cz];rfl
     clear H cz
     go_wp2_with (first
      | (go_at_call 54;refine (impl_with.calls k1 _ c1 l1 i j t wr (Kd.C_below HR1.out HB.out) HC1.out HT.out).mono ?_;rintro e w4 ⟨v4,rfl,hR,hb⟩;have HR4:=AM hR;have HB4:=AM hb;clear hR hb)
      | (go_at_call 53;refine (deleteI 55 #[.pointer (some ⟨gb,0,none⟩)] HEG.out (fun x=>x == last) HR4.out CT.out.1 (impl_squareWalk.cl ((HB4.out.block gb (blk_lt HX.out)).trans HX.out) (fun e_=>by have:=Kd.R_base HR4.out gb e_.symm;have:=blk_lt HX.out;omega))).mono ?_;rintro e w5 ⟨v5,rfl,hR5,hob,hos,htp,hout,hK⟩;rw [← NX.out] at hR5;obtain ⟨A5,c5,e5⟩:=Kd.R_slice hR5;subst e5;have HB5:=AM (impl_squareWalk.after HB4.out (Kd.R_base HR4.out) hos htp hout hK);clear hR5 hob hos htp hout hK))
     go_ret2;have hE:=HE.out;injection hE with e1 e2
     subst e1 e2;exact ⟨_,rfl,Kd.R_mono (Kd.R_below HO.out HB5.out) (fun _ _=>trivial),below_step HB.out HB5.out⟩
    ·rw [if_neg cz] at H;have cz0 : ((nx.length : Int) == 0) = false:=beq_eq_false_iff_ne.2 (by omega);have cz1 : (0 < nx.length) = True:=ET (by omega);obtain ⟨c,hc⟩ : ∃ c : Int,c = rd nx 0:=⟨_,rfl⟩;rw [← hc] at H;have CE:=AM hc;clear hc;replace H:=IC H;obtain ⟨cc,H⟩:=H;obtain ⟨q,hq,H⟩:=Option.bind_eq_some_iff.mp H;have HQ:=AM hq;have LM:=AM cc.2.2;have p1 : (0 ≤ c) = True:=ET cc.1;have q1 : (c < (l1.length : Int)) = True:=ET cc.2.1;clear hq;replace H:=IC H;obtain ⟨cq,H⟩:=H;obtain ⟨adq,eq0,hxq⟩:=Kd.at_int HR0.out q cq.1 cq.2.1;subst eq0;obtain ⟨adi,eq1,hxi⟩:=Kd.at_int HR0.out i cq.2.2.1 cq.2.2.2.1;obtain rfl : adq = adi:=by injection eq1
     clear eq1;obtain ⟨adj,eq2,hxj⟩:=Kd.at_int HR0.out j cq.2.2.2.2.1 cq.2.2.2.2.2;obtain rfl : adq = adj:=by injection eq2
     clear eq2;obtain ⟨ad1,A6,c6,e6,hx6,hl6,hi6⟩:=at_L2 HR1.out c cc.1 cc.2.1;subst e6;have HQQ:=AM (And.intro hxq (And.intro hxi (And.intro hxj hx6)));have HI6:=AM hi6;have HL6:=AM hl6;clear hxq hxi hxj hx6 hi6 hl6;have p2 : (0 ≤ q) = True:=ET cq.1;have q2 : (q < (l0.length : Int)) = True:=ET cq.2.1;have p3 : (0 ≤ i) = True:=ET cq.2.2.1;have q3 : (i < (l0.length : Int)) = True:=ET cq.2.2.2.1;have p4 : (0 ≤ j) = True:=ET cq.2.2.2.2.1;have q4 : (j < (l0.length : Int)) = True:=ET cq.2.2.2.2.2;have HNZ:=AM cz;clear cc cq cz
     have hcase : ((rd l0 q == rd l0 i) = true∧impl_squareWalk.l0 k1 l0 l1 (out ++ [c]) c q j = some (r1,r2)) ∨ ((rd l0 q == rd l0 i) = false∧(rd l0 q == rd l0 j) = true∧impl_squareWalk.l0 k1 l0 l1 (out ++ [c]) c i q = some (r1,r2)) ∨ ((rd l0 q == rd l0 i) = false∧(rd l0 q == rd l0 j) = false∧(out ++ [c],c) = (r1,r2)):=by
      by_cases g1 : rd l0 q = rd l0 i
      ·rw [if_pos g1] at H;exact .inl ⟨beq_iff_eq.2 g1,H⟩
      ·rw [if_neg g1] at H;by_cases g2 : rd l0 q = rd l0 j
       ·rw [if_pos g2] at H;exact .inr (.inl ⟨beq_eq_false_iff_ne.2 g1,beq_iff_eq.2 g2,H⟩)
       ·rw [if_neg g2] at H;exact .inr (.inr ⟨beq_eq_false_iff_ne.2 g1,beq_eq_false_iff_ne.2 g2,Option.some.inj H⟩)
     clear H;rcases hcase with ⟨g1,H⟩|⟨g1,g2,H⟩|⟨g1,g2,H⟩
     all_goals have H':=AM H
     all_goals clear H
     all_goals go_wp2_with (first
      | (go_at_call 54;refine (impl_with.calls k1 _ c1 l1 i j t wr (Kd.C_below HR1.out HB.out) HC1.out HT.out).mono ?_;rintro e w4 ⟨v4,rfl,hR,hb⟩;have HR4:=AM hR;have HB4:=AM hb;clear hR hb)
      | (go_at_call 53;refine (deleteI 55 #[.pointer (some ⟨gb,0,none⟩)] HEG.out (fun x=>x == last) HR4.out CT.out.1 (impl_squareWalk.cl ((HB4.out.block gb (blk_lt HX.out)).trans HX.out) (fun e_=>by have:=Kd.R_base HR4.out gb e_.symm;have:=blk_lt HX.out;omega))).mono ?_;rintro e w5 ⟨v5,rfl,hR5,hob,hos,htp,hout,hK⟩;rw [← NX.out] at hR5;obtain ⟨A5,c5,e5⟩:=Kd.R_slice hR5;subst e5;have hb5:=(impl_squareWalk.after HB4.out (Kd.R_base HR4.out) hos htp hout hK);have HX5:=AM ((hb5.block gb (blk_lt HX.out)).trans HX.out);have HO5:=AM (Kd.R_below HO.out hb5);have HB5:=AM (below_step HB.out hb5);obtain ⟨ad5,e5,hx5⟩:=Kd.at_int (Kd.R_reads' hR5).2.2 0 (by decide) (by have:=HNZ.out;omega);subst e5;rw [← CE.out] at hx5;(try rw [show ((0 : Int)).toNat = 0 from rfl] at hx5);(try rw [Addr.add_zero'] at hx5);have z0 : w5.cell? ⟨gb,0,none⟩ = some (.int .i64 last):=(BC HX5.out 0).trans rfl;have z1 : w5.frozen? ⟨gb,0,none⟩ = false:=BF HX5.out 0;clear hR5 hob hos htp hout hK hb5)
      | ((with_reducible refine gate_store (t:=3) (p:=11) rfl ?_);refine store_event (t:=3) (p:=11) (v:=.tmp 27) (w1:=w5.setCell ⟨gb,0,none⟩ (.int .i64 c)) ?hg ?ho ?hn ?hr ?_;(case ho=>rfl);(case hg=>rfl);(case hn=>rfl);(case hr=>exact GS);intro w6 hw;have HX6:=AM (show w6.heap[gb]? = some (.cells #[.int .i64 c] 3 (0,0)) by rw [hw];exact blk_set HX5.out 0 _);have HO6:=AM (show Kd.R (Kd.int .i64) 3 w6 w.heap.size (fun k_=>k_≠gb) u10 out by rw [hw];exact Kd.R_far HO5.out (fun _ hk=>hk) _);have HB6:=AM (show Below w.heap.size w w6 by rw [hw];exact below_set HB5.out HG.out);have z6 : w6.cell? ⟨gb,0,none⟩ = some (.int .i64 c):=(BC HX6.out 0).trans rfl;clear hw HX5 HO5 HB5 z0 z1 hx5)
      | ((with_reducible refine gate_builtin (b:=.append) (xs:=#[.tmp 28,.tmp 30]) rfl ?_);at_builtin;refine Kd.R_append (Kd.int .i64) (w0:=w) w.heap.size rfl (.tmp 28) (.tmp 30) 24 3 (.int .i64 0) 8 rfl Try.underlying24 info3 rfl (by decide) (by omega) u10 out c [.int .i64 c] (fun k_=>k_≠gb) (fun _=>False) rfl rfl ?aP (fun _ hk=>hk.elim) ?aF ?aO ?aB ?aS ?aL ?_;(case aP=>exact rfl);(case aB=>exact HB6.out);(case aF=>exact (fun k_ hk e_=>by have:=blk_lt HX6.out;omega));(case aO=>exact HO6.out);(case aS=>exact (BZ HB6.out));(case aL=>have:=LM.out;omega);intro v7 w7 ho hb hg hat;have HO7:=AM ho;have HB7:=AM hb;have HX7:=AM ((hg.block gb (blk_lt HX6.out) (fun e_=>HO6.out.1 gb e_.symm rfl)).trans HX6.out);have z7 : w7.cell? ⟨gb,0,none⟩ = some (.int .i64 c):=(BC HX7.out 0).trans rfl;have hx6:=(HB7.out.cell (BL w _ HQQ.out.2.2.2)).trans HQQ.out.2.2.2;have hxq:=(HB7.out.cell (BL w _ HQQ.out.1)).trans HQQ.out.1;have hxi:=(HB7.out.cell (BL w _ HQQ.out.2.1)).trans HQQ.out.2.1;have hxj:=(HB7.out.cell (BL w _ HQQ.out.2.2.1)).trans HQQ.out.2.2.1;clear ho hb hg hat z6)
      | (go_at_call 56;refine (impl_third.calls k1 A6 c6 (rd_L2 l1 c) i j q _ (Kd.C_below HI6.out HB7.out) HL6.out HQ.out).mono ?_;rintro e w8 ⟨rfl,⟨nd,rfl⟩⟩))
     ·go_roundg k1
      case measure=>have:=HK.out;omega
      case rel=>exact ⟨q,j,c,out ++ [c],rfl,rfl,H',⟨by have:=HK.out;omega⟩,HX7,⟨KR HO7⟩,⟨by repeat (first|exact HB7.out|apply pw_below_drewN|apply below_drew1)⟩⟩
     ·go_roundg k1
      case measure=>have:=HK.out;omega
      case rel=>exact ⟨i,q,c,out ++ [c],rfl,rfl,H',⟨by have:=HK.out;omega⟩,HX7,⟨KR HO7⟩,⟨by repeat (first|exact HB7.out|apply pw_below_drewN|apply below_drew1)⟩⟩
     ·repeat (go_quiet (fail);try go_wp2)
      go_ret2;have hE:=H'.out;injection hE with e1 e2
      subst e1 e2;exact ⟨_,rfl,by (with_reducible repeat (first|apply Kd.R_alloc|apply Kd.R_drewN|apply Kd.R_drew));exact Kd.R_mono HO7.out (fun _ _=>trivial),by repeat (first|exact HB7.out|apply pw_below_drewN|apply below_drew1)⟩
   ·replace H:=(if_neg ct).symm.trans H;cases H

end Go.Proofs.Ytlolkkfpfjlhmaa.PFnOppositeEdgesFound
