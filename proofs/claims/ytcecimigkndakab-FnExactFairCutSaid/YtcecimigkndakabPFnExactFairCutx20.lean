-- Written by a program of this session (wip/tools/pp.sh) out of the translation; Lean checks it.
import Derived.Test.YtcecimigkndakabPFnExactFairCutx0
namespace Go.Proofs.Ytcecimigkndakab.PFnExactFairCut
open Go.RowKit Go.Proofs.YtcecimigkndakabOwn Go.Proofs.YtcecimigkndakabW.PrintWords Go.Proofs.YtcecimigkndakabW.PrintLast Go.Proofs.YtcecimigkndakabW.PrintMore
attribute [local go_sem] max2_int min2_int max_two min_two max_three min_three max_four min_four   -- for this text's walks alone
set_option linter.unusedVariables false
set_option maxHeartbeats 8000000
set_option maxRecDepth 100000
set_option linter.unusedSimpArgs false

/-! ### laws_eqIntS: function 8 -/
def laws_eqIntS.l0 : Nat→List Int→List Int→Int→Option (Bool)
 | 0,_,_,_=>none
 | k + 1,x0,x1,x5=>if x5 < (x0.length : Int) then (if 0 ≤ x5 then (if x5 < (x1.length : Int) then (if (rd x0 x5) = (rd x1 x5) then (laws_eqIntS.l0 k x0 x1 (wrap64 (x5 + 1))) else (some false)) else (none)) else (none)) else (some true)
def laws_eqIntS.f (k : Nat) (l0 : List Int) (l1 : List Int) : Option (Bool):=if (l0.length : Int) = (l1.length : Int) then (laws_eqIntS.l0 k l0 l1 0) else (some false)
theorem laws_eqIntS.mono_l : ∀ k,(∀ y0 y1 y2,LeO (laws_eqIntS.l0 k y0 y1 y2) (laws_eqIntS.l0 (k + 1) y0 y1 y2))
 | 0=>fun _ _ _ r h=>by simp [laws_eqIntS.l0] at h
 | k + 1=>by
  have ih0:=laws_eqIntS.mono_l k
  ·intro y0 y1 y2
   unfold laws_eqIntS.l0
   exact MO
theorem laws_eqIntS.mono : ∀ a0 a1 k,LeO (laws_eqIntS.f k a0 a1) (laws_eqIntS.f (k + 1) a0 a1):=by
 intro a0 a1 k;have ih0:=laws_eqIntS.mono_l k;unfold laws_eqIntS.f
 exact MO
theorem laws_eqIntS.calls (k : Nat) (A0 : Option Addr) (c0 : Nat) (l0 : List Int) (A1 : Option Addr) (c1 : Nat) (l1 : List Int) (r : Bool) (w : World) (hr0 : Kd.C (Kd.int .i64) w A0 l0.length l0) (hc0 : l0.length ≤ c0) (hr1 : Kd.C (Kd.int .i64) w A1 l1.length l1) (hc1 : l1.length ≤ c1) (h : laws_eqIntS.f k l0 l1 = some r) :
  Calls Try.prog 8 #[.slice A0 l0.length c0,.slice A1 l1.length c1] w fun e w'=>e = .returned (.bool r)∧Drawn0 w w':=by
 have HR0:=AM hr0;have HC0:=AM hc0;clear hr0 hc0;have HR1:=AM hr1;have HC1:=AM hc1;clear hr1 hc1;have H : (if (l0.length : Int) = (l1.length : Int) then (laws_eqIntS.l0 k l0 l1 0) else (some false)) = some r:=h;clear h;by_cases c3 : (l0.length : Int) = (l1.length : Int)
 ·rw [if_pos c3] at H;have c3b0:=QT c3;have c3b1:=bne_eq_false_iff_eq.mpr c3;have c3b2 : (l0.length == l1.length) = true:=by first|simpa using c3|(simp at c3 ⊢;omega)
  clear c3;have H':=AM H;clear H;go_enter Try.func8,Try.ntmps8;go_wp2;repeat (go_quiet (fail);try go_wp2)
  go_loopg [5] k (fun kq v5 w'=>∃ (x5_1 : Int),v5 = .int .i64 x5_1∧Aside0 (laws_eqIntS.l0 kq l0 l1 x5_1 = some r)∧Aside0 (kq ≤ k)∧Drawn0 w w')
  case atStart=>exact ⟨(0),RF,H',⟨Nat.le_refl _⟩,by repeat (first|exact Drawn0.refl _|apply Drawn0.step)⟩
  case round =>
   clear H';try clear c1
   try clear p2
   try clear c3
   try clear c3b0
   try clear c3b1
   try clear c3b2
   obtain ⟨x5_1,rfl,HA,HK1,⟨m1,rfl⟩⟩:=hrel;cases gk with
   | zero=>exact absurd HA.out (by simp [laws_eqIntS.l0])
   | succ k1 =>
    have H:=HA.out;clear HA;simp only [laws_eqIntS.l0] at H;by_cases c4 : x5_1 < (l0.length : Int)
    ·rw [if_pos c4] at H;have c4b0:=DT c4;clear c4;replace H:=IC H;obtain ⟨c5,H⟩:=H;have c5b0:=DT c5;clear c5;replace H:=IC H;obtain ⟨c6,H⟩:=H;have c6b0:=DT c6;clear c6;by_cases c7 : (rd l0 x5_1) = (rd l1 x5_1)
     ·rw [if_pos c7] at H;have c7b0:=QT c7;have c7b1:=bne_eq_false_iff_eq.mpr c7;clear c7;have H':=AM H;clear H;have p522 : 0 ≤ (x5_1 : Int):=OD AS;have q522 : x5_1 < (l0.length : Int):=OD AS;obtain ⟨ad522,e522,hx522_0⟩:=Kd.at_int HR0.out x5_1 p522 q522;cases e522;replace p522:=ET p522;replace q522:=ET q522;have p523 : 0 ≤ (x5_1 : Int):=OD AS;have q523 : x5_1 < (l1.length : Int):=OD AS;obtain ⟨ad523,e523,hx523_0⟩:=Kd.at_int HR1.out x5_1 p523 q523;cases e523;replace p523:=ET p523;replace q523:=ET q523;go_wp2;repeat (go_quiet (fail);try go_wp2)
      go_roundg k1
      case measure=>have:=HK1.out;omega
      case rel=>exact ⟨(wrap64 (x5_1 + 1)),RF,H',⟨by have:=HK1.out;omega⟩,by repeat (first|exact Drawn0.refl _|apply Drawn0.step)⟩
     ·rw [if_neg c7] at H;have c7b0:=beq_eq_false_iff_ne.mpr c7;have c7b1:=bne_iff_ne.mpr c7;obtain rfl:=Option.some.inj H;have p522 : 0 ≤ (x5_1 : Int):=OD AS;have q522 : x5_1 < (l0.length : Int):=OD AS;obtain ⟨ad522,e522,hx522_0⟩:=Kd.at_int HR0.out x5_1 p522 q522;cases e522;replace p522:=ET p522;replace q522:=ET q522;have p523 : 0 ≤ (x5_1 : Int):=OD AS;have q523 : x5_1 < (l1.length : Int):=OD AS;obtain ⟨ad523,e523,hx523_0⟩:=Kd.at_int HR1.out x5_1 p523 q523;cases e523;replace p523:=ET p523;replace q523:=ET q523;go_wp2;repeat (go_quiet (fail);try go_wp2)
      go_ret;exact ⟨RF,DR⟩
    ·rw [if_neg c4] at H;have c4b0:=DF c4;clear c4;obtain rfl:=Option.some.inj H;go_wp2;repeat (go_quiet (fail);try go_wp2)
     go_ret;exact ⟨RF,DR⟩
 ·rw [if_neg c3] at H;have c3b0:=beq_eq_false_iff_ne.mpr c3;have c3b1:=bne_iff_ne.mpr c3;have c3b2 : (l0.length == l1.length) = false:=by first|simpa using c3|(simp at c3 ⊢;omega)
  obtain rfl:=Option.some.inj H;go_enter Try.func8,Try.ntmps8;go_wp2;repeat (go_quiet (fail);try go_wp2)
  go_ret;exact ⟨RF,DR⟩

/-! ### laws_eqIntSS: function 9 -/
def laws_eqIntSS.l0 : Nat→List (List Int)→List (List Int)→Int→Option (Bool)
 | 0,_,_,_=>none
 | k + 1,x0,x1,x5=>if x5 < (x0.length : Int) then (if 0 ≤ x5 then (if x5 < (x1.length : Int) then ((laws_eqIntS.f k (rd_L1 x0 x5) (rd_L1 x1 x5)).bind fun t526=>(if t526 = true then (laws_eqIntSS.l0 k x0 x1 (wrap64 (x5 + 1))) else (some false))) else (none)) else (none)) else (some true)
def laws_eqIntSS.f (k : Nat) (l0 : List (List Int)) (l1 : List (List Int)) : Option (Bool):=if (l0.length : Int) = (l1.length : Int) then (laws_eqIntSS.l0 k l0 l1 0) else (some false)
theorem laws_eqIntSS.mono_l : ∀ k,(∀ y0 y1 y2,LeO (laws_eqIntSS.l0 k y0 y1 y2) (laws_eqIntSS.l0 (k + 1) y0 y1 y2))
 | 0=>fun _ _ _ r h=>by simp [laws_eqIntSS.l0] at h
 | k + 1=>by
  have ih0:=laws_eqIntSS.mono_l k
  ·intro y0 y1 y2
   unfold laws_eqIntSS.l0
   have m0:=@laws_eqIntS.mono
   exact MO
theorem laws_eqIntSS.mono : ∀ a0 a1 k,LeO (laws_eqIntSS.f k a0 a1) (laws_eqIntSS.f (k + 1) a0 a1):=by
 intro a0 a1 k;have ih0:=laws_eqIntSS.mono_l k;unfold laws_eqIntSS.f
 have m0:=@laws_eqIntS.mono
 exact MO
theorem laws_eqIntSS.calls (k : Nat) (A0 : Option Addr) (c0 : Nat) (l0 : List (List Int)) (A1 : Option Addr) (c1 : Nat) (l1 : List (List Int)) (r : Bool) (w : World) (hr0 : Kd.C (Kd.slice 3 (Kd.int .i64)) w A0 l0.length l0) (hc0 : l0.length ≤ c0) (hr1 : Kd.C (Kd.slice 3 (Kd.int .i64)) w A1 l1.length l1) (hc1 : l1.length ≤ c1) (h : laws_eqIntSS.f k l0 l1 = some r) :
  Calls Try.prog 9 #[.slice A0 l0.length c0,.slice A1 l1.length c1] w fun e w'=>e = .returned (.bool r)∧Drawn0 w w':=by
 have HR0:=AM hr0;have HC0:=AM hc0;clear hr0 hc0;have HR1:=AM hr1;have HC1:=AM hc1;clear hr1 hc1;have H : (if (l0.length : Int) = (l1.length : Int) then (laws_eqIntSS.l0 k l0 l1 0) else (some false)) = some r:=h;clear h;by_cases c3 : (l0.length : Int) = (l1.length : Int)
 ·rw [if_pos c3] at H;have c3b0:=QT c3;have c3b1:=bne_eq_false_iff_eq.mpr c3;have c3b2 : (l0.length == l1.length) = true:=by first|simpa using c3|(simp at c3 ⊢;omega)
  clear c3;have H':=AM H;clear H;go_enter Try.func9,Try.ntmps9;go_wp2;repeat (go_quiet (fail);try go_wp2)
  go_loopg [5] k (fun kq v5 w'=>∃ (x5_1 : Int),v5 = .int .i64 x5_1∧Aside0 (laws_eqIntSS.l0 kq l0 l1 x5_1 = some r)∧Aside0 (kq ≤ k)∧Drawn0 w w')
  case atStart=>exact ⟨(0),RF,H',⟨Nat.le_refl _⟩,by repeat (first|exact Drawn0.refl _|apply Drawn0.step)⟩
  case round =>
   clear H';try clear c1
   try clear p2
   try clear c3
   try clear c3b0
   try clear c3b1
   try clear c3b2
   obtain ⟨x5_1,rfl,HA,HK1,⟨m1,rfl⟩⟩:=hrel;cases gk with
   | zero=>exact absurd HA.out (by simp [laws_eqIntSS.l0])
   | succ k1 =>
    have H:=HA.out;clear HA;simp only [laws_eqIntSS.l0] at H;by_cases c4 : x5_1 < (l0.length : Int)
    ·rw [if_pos c4] at H;have c4b0:=DT c4;clear c4;replace H:=IC H;obtain ⟨c5,H⟩:=H;have c5b0:=DT c5;clear c5;replace H:=IC H;obtain ⟨c6,H⟩:=H;have c6b0:=DT c6;clear c6;replace H:=EA H;obtain ⟨t526,A7,H⟩:=H;by_cases c8 : t526 = true
     ·subst c8;replace H:=IP H;have H':=AM H;clear H;have p524 : 0 ≤ (x5_1 : Int):=OD AS;have q524 : x5_1 < (l0.length : Int):=OD AS;obtain ⟨ad524,A524_0,c524_0,e524,hx524_0,hl524_0,hi524_0⟩:=at_L1 HR0.out x5_1 p524 q524;cases e524;have HR524_0:=AM hi524_0;have HC524_0:=AM hl524_0;clear hi524_0 hl524_0;replace p524:=ET p524;replace q524:=ET q524;have p525 : 0 ≤ (x5_1 : Int):=OD AS;have q525 : x5_1 < (l1.length : Int):=OD AS;obtain ⟨ad525,A525_0,c525_0,e525,hx525_0,hl525_0,hi525_0⟩:=at_L1 HR1.out x5_1 p525 q525;cases e525;have HR525_0:=AM hi525_0;have HC525_0:=AM hl525_0;clear hi525_0 hl525_0;replace p525:=ET p525;replace q525:=ET q525;go_wp2_with (first|(go_at_call 8;(with_reducible refine (laws_eqIntS.calls k1 _ _ (rd_L1 l0 x5_1) _ _ (rd_L1 l1 x5_1) true _ ?side1 ?side2 ?side3 ?side4 A7.out).mono ?_);(case side1=>exact CW HR524_0.out);(case side2=>exact HC524_0.out);(case side3=>exact CW HR525_0.out);(case side4=>exact HC525_0.out);rintro e w' ⟨rfl,⟨nd,rfl⟩⟩;(try exact DW)));repeat (go_quiet (first|(go_at_call 8;(with_reducible refine (laws_eqIntS.calls k1 _ _ (rd_L1 l0 x5_1) _ _ (rd_L1 l1 x5_1) true _ ?side1 ?side2 ?side3 ?side4 A7.out).mono ?_);(case side1=>exact CW HR524_0.out);(case side2=>exact HC524_0.out);(case side3=>exact CW HR525_0.out);(case side4=>exact HC525_0.out);rintro e w' ⟨rfl,⟨nd,rfl⟩⟩;(try exact DW)));try go_wp2_with (first|(go_at_call 8;(with_reducible refine (laws_eqIntS.calls k1 _ _ (rd_L1 l0 x5_1) _ _ (rd_L1 l1 x5_1) true _ (CW HR524_0.out) HC524_0.out (CW HR525_0.out) HC525_0.out A7.out).mono ?_);rintro e w' ⟨rfl,⟨nd,rfl⟩⟩;(try exact DW))))
      go_roundg k1
      case measure=>have:=HK1.out;omega
      case rel=>exact ⟨(wrap64 (x5_1 + 1)),RF,H',⟨by have:=HK1.out;omega⟩,by repeat (first|exact Drawn0.refl _|apply Drawn0.step)⟩
     ·replace c8:=NF c8;subst c8;replace H:=IN H;obtain rfl:=Option.some.inj H;have p524 : 0 ≤ (x5_1 : Int):=OD AS;have q524 : x5_1 < (l0.length : Int):=OD AS;obtain ⟨ad524,A524_0,c524_0,e524,hx524_0,hl524_0,hi524_0⟩:=at_L1 HR0.out x5_1 p524 q524;cases e524;have HR524_0:=AM hi524_0;have HC524_0:=AM hl524_0;clear hi524_0 hl524_0;replace p524:=ET p524;replace q524:=ET q524;have p525 : 0 ≤ (x5_1 : Int):=OD AS;have q525 : x5_1 < (l1.length : Int):=OD AS;obtain ⟨ad525,A525_0,c525_0,e525,hx525_0,hl525_0,hi525_0⟩:=at_L1 HR1.out x5_1 p525 q525;cases e525;have HR525_0:=AM hi525_0;have HC525_0:=AM hl525_0;clear hi525_0 hl525_0;replace p525:=ET p525;replace q525:=ET q525;go_wp2_with (first|(go_at_call 8;(with_reducible refine (laws_eqIntS.calls k1 _ _ (rd_L1 l0 x5_1) _ _ (rd_L1 l1 x5_1) false _ ?side1 ?side2 ?side3 ?side4 A7.out).mono ?_);(case side1=>exact CW HR524_0.out);(case side2=>exact HC524_0.out);(case side3=>exact CW HR525_0.out);(case side4=>exact HC525_0.out);rintro e w' ⟨rfl,⟨nd,rfl⟩⟩;(try exact DW)));repeat (go_quiet (first|(go_at_call 8;(with_reducible refine (laws_eqIntS.calls k1 _ _ (rd_L1 l0 x5_1) _ _ (rd_L1 l1 x5_1) false _ ?side1 ?side2 ?side3 ?side4 A7.out).mono ?_);(case side1=>exact CW HR524_0.out);(case side2=>exact HC524_0.out);(case side3=>exact CW HR525_0.out);(case side4=>exact HC525_0.out);rintro e w' ⟨rfl,⟨nd,rfl⟩⟩;(try exact DW)));try go_wp2_with (first|(go_at_call 8;(with_reducible refine (laws_eqIntS.calls k1 _ _ (rd_L1 l0 x5_1) _ _ (rd_L1 l1 x5_1) false _ (CW HR524_0.out) HC524_0.out (CW HR525_0.out) HC525_0.out A7.out).mono ?_);rintro e w' ⟨rfl,⟨nd,rfl⟩⟩;(try exact DW))))
      go_ret;exact ⟨RF,DR⟩
    ·rw [if_neg c4] at H;have c4b0:=DF c4;clear c4;obtain rfl:=Option.some.inj H;go_wp2;repeat (go_quiet (fail);try go_wp2)
     go_ret;exact ⟨RF,DR⟩
 ·rw [if_neg c3] at H;have c3b0:=beq_eq_false_iff_ne.mpr c3;have c3b1:=bne_iff_ne.mpr c3;have c3b2 : (l0.length == l1.length) = false:=by first|simpa using c3|(simp at c3 ⊢;omega)
  obtain rfl:=Option.some.inj H;go_enter Try.func9,Try.ntmps9;go_wp2;repeat (go_quiet (fail);try go_wp2)
  go_ret;exact ⟨RF,DR⟩

/-! ### laws_markIntS: function 11 -/
def laws_markIntS.l0 : Nat→List Int→Int→Int→Option (Int × List Int)
 | 0,_,_,_=>none
 | k + 1,x0,x1,x5=>if x5 < (x0.length : Int) then (if 0 ≤ x5 then (laws_markIntS.l0 k (x0.set (x5 : Int).toNat x1) (wrap64 (x1 + 1)) (wrap64 (x5 + 1))) else (none)) else (some (x1,x0))
def laws_markIntS.f (k : Nat) (l0 : List Int) (a1 : Int) : Option (Int × List Int):=laws_markIntS.l0 k l0 a1 0
theorem laws_markIntS.mono_l : ∀ k,(∀ y0 y1 y2,LeO (laws_markIntS.l0 k y0 y1 y2) (laws_markIntS.l0 (k + 1) y0 y1 y2))
 | 0=>fun _ _ _ r h=>by simp [laws_markIntS.l0] at h
 | k + 1=>by
  have ih0:=laws_markIntS.mono_l k
  ·intro y0 y1 y2
   unfold laws_markIntS.l0
   exact MO
theorem laws_markIntS.mono : ∀ a0 a1 k,LeO (laws_markIntS.f k a0 a1) (laws_markIntS.f (k + 1) a0 a1):=by
 intro a0 a1 k;have ih0:=laws_markIntS.mono_l k;unfold laws_markIntS.f
 exact MO
theorem laws_markIntS.calls (k : Nat) (P0_ : Nat→Prop) (u9000_ : Value) (l0 : List Int) (a1 : Int) (r1 : Int) (r2 : List Int) (w0 w : World) (hB : Below w0.heap.size w0 w) (ho0 : Kd.R (Kd.int .i64) 3 w w0.heap.size P0_ u9000_ l0) (h : laws_markIntS.f k l0 a1 = some (r1,r2)) :
  Calls Try.prog 11 #[u9000_,.int .i64 a1] w fun e w'=>e = .returned (.int .i64 r1)∧Kd.R (Kd.int .i64) 3 w' w0.heap.size (fun k_=>(P0_ k_ ∨ w.heap.size ≤ k_)) u9000_ r2∧Below w0.heap.size w0 w'∧Kept w w' (fun k_=>P0_ k_):=by
 have HO0:=AM (show Kd.R (Kd.int .i64) 3 w w0.heap.size (fun k_=>(P0_ k_ ∨ w.heap.size ≤ k_)) u9000_ l0 from Kd.R_mono ho0 (fun k_ hk=>(.inl hk)));have HK:=AM (Kept.refl w (fun k_=>P0_ k_));have HW0:=AM hB.size;have HB:=AM hB;clear hB;have H : (laws_markIntS.l0 k l0 a1 0) = some (r1,r2):=h;clear h;have H':=AM H;clear H;go_enter Try.func11,Try.ntmps11;go_wp2;go_loopg [1,5] k (fun kq v1 v5 w'=>∃ (x0_1 : List Int) (x1_1 : Int) (x5_1 : Int),v1 = .int .i64 x1_1∧v5 = .int .i64 x5_1∧Aside0 (laws_markIntS.l0 kq x0_1 x1_1 x5_1 = some (r1,r2))∧Aside0 (kq ≤ k)∧Aside0 (Kd.R (Kd.int .i64) 3 w' w0.heap.size (fun k_=>(P0_ k_ ∨ w.heap.size ≤ k_)) u9000_ x0_1)∧Aside0 (Kept w w' (fun k_=>P0_ k_))∧Aside0 (Below w0.heap.size w0 w'))
 case atStart=>exact ⟨(l0),(a1),(0),RF,RF,H',⟨Nat.le_refl _⟩,⟨KR HO0⟩,⟨by repeat (first|(with_reducible first|exact HK.out|apply Kept.alloc|apply Kept.drewN|apply Kept.drew)|exact HK.out)⟩,⟨BB⟩⟩
 case round =>
  clear H';try clear c1
  try clear p2
  obtain ⟨x0_1,x1_1,x5_1,rfl,rfl,HA,HK1,HO_0,HK,HB⟩:=hrel;cases gk with
  | zero=>exact absurd HA.out (by simp [laws_markIntS.l0])
  | succ k1 =>
   have H:=HA.out;clear HA;simp only [laws_markIntS.l0] at H;by_cases c3 : x5_1 < (x0_1.length : Int)
   ·rw [if_pos c3] at H;have c3b0:=DT c3;clear c3;replace H:=IC H;obtain ⟨c4,H⟩:=H;have c4b0:=DT c4;clear c4;obtain ⟨y527,hy527⟩ : ∃ y_ : List Int,y_ = (x0_1.set (x5_1 : Int).toNat x1_1):=⟨_,rfl⟩;replace H : (laws_markIntS.l0 k1 y527 (wrap64 (x1_1 + 1)) (wrap64 (x5_1 + 1))) = some (r1,r2):=HY H hy527;have Ny527:=AM hy527;clear hy527;have H':=AM H;clear H;obtain ⟨Ao6,co6,eo6⟩:=Kd.R_slice HO_0.out;subst eo6;have p5 : 0 ≤ (x5_1 : Int):=OD AS;have q5 : (x5_1 : Int) < ((x0_1.length : Int) : Int):=OD AS;obtain ⟨go5,co5,eo5,gb5,gl5,cl5,HG5⟩:=Kd.R_form HO_0.out (by omega)
    (first|cases eo5|(injection eo5 with ea_ en_ ec_;(first|subst ea_|(injection ea_ with ea_;subst ea_));subst ec_;clear en_));have GB5:=AM gb5;have GG5:=AM HG5;clear gb5 gl5 HG5;have HMgo5:=AM (show (P0_ go5 ∨ w.heap.size ≤ go5) from (HO_0.out.1 _ rfl));obtain ⟨hx5_0,hf5_0⟩:=Kd.R_celln 0 HO_0.out (x5_1 : Int) p5 q5;replace p5:=ET p5;replace q5:=ET q5;have HP7:=Kd.R_putg HO_0.out (x5_1 : Int) x1_1;go_wp2_with (first|((with_reducible refine gate_store (t:=3) (p:=15) rfl ?_);refine store_event (t:=3) (p:=15) (v:=?vo_w8) (w1:=(wr.setCell ⟨go5,(x5_1 : Int).toNat,none⟩ (.int .i64 x1_1))) ?hg ?ho ?hn ?hr ?_;(case ho=>rfl);(case hg=>rfl);(case hn=>rfl);(case hr=>exact GS);intro w8 hw;have hg : wr.grownBy w8 (some go5):=(by rw [hw];exact HP7.2);have hp_ : Kd.R (Kd.int .i64) 3 w8 w0.heap.size (fun k_=>(P0_ k_ ∨ w.heap.size ≤ k_)) (.slice (some ⟨go5,0,none⟩) x0_1.length co6) y527:=(by rw [hw,Ny527.out];exact HP7.1);clear HP7;replace HB:=AM ((by rw [hw];exact below_set (HB.out) GB5.out : Below w0.heap.size w0 w8));replace HK:=AM (Kept.of_grown (S:=(fun k_=>P0_ k_)) hg (by repeat (first|(with_reducible first|exact HK.out|apply Kept.alloc|apply Kept.drewN|apply Kept.drew)|exact HK.out)) (fun k_ e_=>(HO_0.out.1 k_ e_)));replace HO_0:=AM hp_;clear hg hw hp_));go_roundg k1
    case measure=>have:=HK1.out;omega
    case rel=>exact ⟨(y527),(wrap64 (x1_1 + 1)),(wrap64 (x5_1 + 1)),RF,RF,H',⟨by have:=HK1.out;omega⟩,⟨KR HO_0⟩,⟨by repeat (first|(with_reducible first|exact HK.out|apply Kept.alloc|apply Kept.drewN|apply Kept.drew)|exact HK.out)⟩,⟨BB⟩⟩
   ·rw [if_neg c3] at H;have c3b0:=DF c3;clear c3;simp only [Option.some.injEq,Prod.mk.injEq] at H;obtain ⟨rfl,rfl⟩:=H;obtain ⟨Ao9,co9,eo9⟩:=Kd.R_slice HO_0.out;subst eo9;go_wp2;go_ret;exact ⟨RE,KR HO_0,BB,by repeat (first|(with_reducible first|exact HK.out|apply Kept.alloc|apply Kept.drewN|apply Kept.drew)|exact HK.out)⟩

/-! ### laws_markIntSS: function 10 (given) -/
def laws_markIntSS.l0 : Nat→List (List Int)→Int→Int→Option Int
 | 0,_,_,_=>none
 | k + 1,x0,x1,x5=>if x5 < (x0.length : Int) then (if 0 ≤ x5 then (if x5 < 1048577 then ((laws_markIntS.f k (rd_L1 x0 x5) x1).bind fun t=>laws_markIntSS.l0 k x0 t.1 (wrap64 (x5 + 1))) else none) else none) else some x1
def laws_markIntSS.f (k : Nat) (l0 : List (List Int)) (a1 : Int) : Option Int:=laws_markIntSS.l0 k l0 a1 0
theorem laws_markIntSS.mono_l : ∀ k,(∀ y0 y1 y2,LeO (laws_markIntSS.l0 k y0 y1 y2) (laws_markIntSS.l0 (k + 1) y0 y1 y2))
 | 0=>fun _ _ _ r h=>by simp [laws_markIntSS.l0] at h
 | k + 1=>by
  have ih0:=laws_markIntSS.mono_l k
  intro y0 y1 y2
  unfold laws_markIntSS.l0
  exact LeO.ite (LeO.ite (LeO.ite (LeO.bind (laws_markIntS.mono _ _ _) (fun _=>ih0 _ _ _)) (LeO.refl _)) (LeO.refl _)) (LeO.refl _)
theorem laws_markIntSS.mono : ∀ a0 a1 k,LeO (laws_markIntSS.f k a0 a1) (laws_markIntSS.f (k + 1) a0 a1):=fun a0 a1 k=>laws_markIntSS.mono_l k a0 a1 0
theorem laws_markIntSS.zip (l : List (List Int)) (i : Int) (h0 : 0 ≤ i) (h1 : i < (l.length : Int)) : l.zipIdx.getD i.toNat ([],0) = (rd_L1 l i,i.toNat):=by
 have hi : i.toNat < l.length:=by omega
 rw [List.getD_eq_getElem?_getD,List.getElem?_zipIdx,Nat.zero_add];unfold rd_L1;rw [List.getD_eq_getElem?_getD,List.getElem?_eq_getElem hi];rfl
set_option maxHeartbeats 4000000 in
set_option maxRecDepth 100000 in
theorem laws_markIntSS.calls (k : Nat) (ok : Nat→Prop) (u : Value) (l0 : List (List Int)) (a1 r : Int) (w0 w : World) (hB : Below w0.heap.size w0 w) (ho : Kd.S (Kd.slice 3 (Kd.int .i64)) 24 w w0.heap.size ok u l0) (h : laws_markIntSS.f k l0 a1 = some r) :
  Calls Try.prog 10 #[u,.int .i64 a1] w fun e w'=>e = .returned (.int .i64 r)∧Below w0.heap.size w0 w'∧Kept w w' ok:=by
 have HB:=AM hB;have HS:=AM ho;obtain ⟨A,c,rfl⟩:=Kd.S_slice ho;obtain ⟨f,hf⟩:=ho;have HF:=AM hf;have H : laws_markIntSS.l0 k l0 a1 0 = some r:=h;have H':=AM H;clear hB hf h H;go_enter Try.func10,Try.ntmps10;go_wp2;go_loopg [1,5] k (fun kq v1 v5 w'=>∃ (x1 : Int) (x5 : Int),v1 = .int .i64 x1∧v5 = .int .i64 x5∧Aside0 (laws_markIntSS.l0 kq l0 x1 x5 = some r)∧Aside0 (kq ≤ k)∧Aside0 (0 ≤ x5)∧Aside0 (Kept w w' (fun k_=>ok k_∧some k_≠(Value.slice A l0.length c).ownBlock∧(f k_ : Int) < x5))∧Aside0 (Below w0.heap.size w0 w'))
 case atStart=>exact ⟨a1,0,RF,RF,H',⟨Nat.le_refl _⟩,⟨Int.le_refl _⟩,⟨Kept.refl _ _⟩,⟨BB⟩⟩
 case round =>
  clear H';obtain ⟨x1,x5,rfl,rfl,HA,HK1,HP,HKP,HB⟩:=hrel;cases gk with
  | zero=>exact absurd HA.out (by simp [laws_markIntSS.l0])
  | succ k1 =>
   have H:=HA.out;clear HA;simp only [laws_markIntSS.l0] at H;by_cases c3 : x5 < (l0.length : Int)
   ·rw [if_pos c3,if_pos HP.out] at H;replace H:=IC H;obtain ⟨c5,H⟩:=H;obtain ⟨⟨t1,t2⟩,hcall,H⟩:=Option.bind_eq_some_iff.mp H;have AC:=AM hcall;have H':=AM H;have hwr : True→wrap64 (x5 + 1) = x5 + 1:=fun _=>by have:=HP.out;unfold wrap64;omega
    clear hcall H;have c3b0:=DT c3;have p5 : 0 ≤ x5:=HP.out;obtain ⟨ad,Ai,ci,e5,hx,hl,hi⟩:=at_L1 (Kd.S_reads' HS.out).2.2 x5 p5 c3;cases e5;obtain ⟨ce,hce,hMe,hcc⟩:=Kd.R_getA HF.out ([],0) x5 p5 c3;rw [laws_markIntSS.zip l0 x5 p5 c3] at hMe;obtain ⟨ve,rfl,ge⟩:=hMe;have hv:=hcc 0 _ rfl;rw [Nat.add_zero,show ((Kd.tag f (Kd.slice 3 (Kd.int .i64)))).sz = 1 from rfl,Nat.mul_one] at hv;replace hv:=Option.some.inj (hv.symm.trans hx);rw [hv] at ge
    have gr : Kd.R (Kd.int .i64) 3 wr w0.heap.size _ _ (rd_L1 l0 x5):=Kd.R_kept ge HKP.out (fun k_ hk h2=>by
     have h3:=hk.2;have h4:=h2.2.2;have h5 : f k_ = x5.toNat:=h3;omega)
    have GR:=AM gr;have hown:=gr.1;have hxr:=cell_kept hx HKP.out (fun h2=>h2.2.1 (by simp [Value.ownBlock,Go.Addr.add];split <;> rfl));clear hv ge gr hcc hce hl hi hx;have q5 : (x5 < (l0.length : Int)) = True:=ET c3;have p5' : (0 ≤ x5) = True:=ET p5;have HOW:=AM hown;have HWR:=AM (hwr trivial);clear p5 c3 c5 hown hwr
    go_wp2_with (first
     | (go_at_call 11;refine (laws_markIntS.calls k1 (fun k_=>some k_ = (Value.slice Ai (rd_L1 l0 x5).length ci).ownBlock) (.slice Ai (rd_L1 l0 x5).length ci) (rd_L1 l0 x5) x1 t1 t2 w0 _ ?hb1 (Kd.R_tight rfl GR.out) AC.out).mono ?_;(case hb1=>exact HB.out);rintro e w3 ⟨rfl,hy,hb,hkp⟩;have HB3:=AM hb;have HK3:=AM hkp;clear hy hb hkp))
    go_roundg k1
    case measure=>have:=HK1.out;omega
    case rel =>
     refine ⟨t1,wrap64 (x5 + 1),RF,RF,H',⟨by have:=HK1.out;omega⟩,⟨by rw [HWR.out];have:=HP.out;omega⟩,⟨?_⟩,⟨by repeat (first|exact HB3.out|apply pw_below_drewN|apply below_drew1)⟩⟩
     have h2:=(HKP.out.mono (S':=fun k_=>ok k_∧some k_≠(Value.slice (some ad) l0.length c).ownBlock∧(f k_ : Int) < wrap64 (x5 + 1)) (fun k_ hk=>⟨hk.1,hk.2.1,by rw [HWR.out];have:=hk.2.2;omega⟩)).then_ HK3.out (fun k_ hk=>.inl (by
      have h3:=HOW.out k_ hk.symm;refine ⟨h3.1.1,h3.1.2,?_⟩;have h4 : f k_ = x5.toNat:=h3.2;rw [HWR.out];have:=HP.out;omega))
     repeat (first|exact h2|apply Kept.drewN|apply Kept.drew)
   ·rw [if_neg c3] at H;have c3b0:=DF c3;clear c3;obtain rfl:=Option.some.inj H;go_wp2;go_ret;exact ⟨RF,BB,by repeat (first|exact HKP.out.mono (fun _ hk=>hk.1)|apply Kept.drewN|apply Kept.drew)⟩

/-! ### laws_heldIntS: function 12 -/
def laws_heldIntS.l0 : Nat→List Int→Int→Int→Option (Int)
 | 0,_,_,_=>none
 | k + 1,x0,x1,x5=>if x5 < (x0.length : Int) then (if 0 ≤ x5 then (if (rd x0 x5) = x1 then (laws_heldIntS.l0 k x0 (wrap64 (x1 + 1)) (wrap64 (x5 + 1))) else (some (-1))) else (none)) else (some x1)
def laws_heldIntS.f (k : Nat) (l0 : List Int) (a1 : Int) : Option (Int):=laws_heldIntS.l0 k l0 a1 0
theorem laws_heldIntS.mono_l : ∀ k,(∀ y0 y1 y2,LeO (laws_heldIntS.l0 k y0 y1 y2) (laws_heldIntS.l0 (k + 1) y0 y1 y2))
 | 0=>fun _ _ _ r h=>by simp [laws_heldIntS.l0] at h
 | k + 1=>by
  have ih0:=laws_heldIntS.mono_l k
  ·intro y0 y1 y2
   unfold laws_heldIntS.l0
   exact MO
theorem laws_heldIntS.mono : ∀ a0 a1 k,LeO (laws_heldIntS.f k a0 a1) (laws_heldIntS.f (k + 1) a0 a1):=by
 intro a0 a1 k;have ih0:=laws_heldIntS.mono_l k;unfold laws_heldIntS.f
 exact MO
theorem laws_heldIntS.calls (k : Nat) (A0 : Option Addr) (c0 : Nat) (l0 : List Int) (a1 : Int) (r : Int) (w : World) (hr0 : Kd.C (Kd.int .i64) w A0 l0.length l0) (hc0 : l0.length ≤ c0) (h : laws_heldIntS.f k l0 a1 = some r) :
  Calls Try.prog 12 #[.slice A0 l0.length c0,.int .i64 a1] w fun e w'=>e = .returned (.int .i64 r)∧Drawn0 w w':=by
 have HR0:=AM hr0;have HC0:=AM hc0;clear hr0 hc0;have H : (laws_heldIntS.l0 k l0 a1 0) = some r:=h;clear h;have H':=AM H;clear H;go_enter Try.func12,Try.ntmps12;go_wp2;go_loopg [1,5] k (fun kq v1 v5 w'=>∃ (x1_1 : Int) (x5_1 : Int),v1 = .int .i64 x1_1∧v5 = .int .i64 x5_1∧Aside0 (laws_heldIntS.l0 kq l0 x1_1 x5_1 = some r)∧Aside0 (kq ≤ k)∧Drawn0 w w')
 case atStart=>exact ⟨(a1),(0),RF,RF,H',⟨Nat.le_refl _⟩,by repeat (first|exact Drawn0.refl _|apply Drawn0.step)⟩
 case round =>
  clear H';try clear c1
  try clear p2
  obtain ⟨x1_1,x5_1,rfl,rfl,HA,HK1,⟨m1,rfl⟩⟩:=hrel;cases gk with
  | zero=>exact absurd HA.out (by simp [laws_heldIntS.l0])
  | succ k1 =>
   have H:=HA.out;clear HA;simp only [laws_heldIntS.l0] at H;by_cases c3 : x5_1 < (l0.length : Int)
   ·rw [if_pos c3] at H;have c3b0:=DT c3;clear c3;replace H:=IC H;obtain ⟨c4,H⟩:=H;have c4b0:=DT c4;clear c4;by_cases c5 : (rd l0 x5_1) = x1_1
    ·rw [if_pos c5] at H;have c5b0:=QT c5;have c5b1:=bne_eq_false_iff_eq.mpr c5;clear c5;have H':=AM H;clear H;have p528 : 0 ≤ (x5_1 : Int):=OD AS;have q528 : x5_1 < (l0.length : Int):=OD AS;obtain ⟨ad528,e528,hx528_0⟩:=Kd.at_int HR0.out x5_1 p528 q528;cases e528;replace p528:=ET p528;replace q528:=ET q528;go_wp2;go_roundg k1
     case measure=>have:=HK1.out;omega
     case rel=>exact ⟨(wrap64 (x1_1 + 1)),(wrap64 (x5_1 + 1)),RF,RF,H',⟨by have:=HK1.out;omega⟩,by repeat (first|exact Drawn0.refl _|apply Drawn0.step)⟩
    ·rw [if_neg c5] at H;have c5b0:=beq_eq_false_iff_ne.mpr c5;have c5b1:=bne_iff_ne.mpr c5;obtain rfl:=Option.some.inj H;have p528 : 0 ≤ (x5_1 : Int):=OD AS;have q528 : x5_1 < (l0.length : Int):=OD AS;obtain ⟨ad528,e528,hx528_0⟩:=Kd.at_int HR0.out x5_1 p528 q528;cases e528;replace p528:=ET p528;replace q528:=ET q528;go_wp2;go_ret;exact ⟨RF,DR⟩
   ·rw [if_neg c3] at H;have c3b0:=DF c3;clear c3;obtain rfl:=Option.some.inj H;go_wp2;go_ret;exact ⟨RF,DR⟩

end Go.Proofs.Ytcecimigkndakab.PFnExactFairCut
