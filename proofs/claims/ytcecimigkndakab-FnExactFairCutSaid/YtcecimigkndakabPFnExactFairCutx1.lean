-- Written by a program of this session (wip/tools/pp.sh) out of the translation; Lean checks it.
import Derived.Test.YtcecimigkndakabPFnExactFairCutx0
namespace Go.Proofs.Ytcecimigkndakab.PFnExactFairCut
open Go.RowKit Go.Proofs.YtcecimigkndakabOwn Go.Proofs.YtcecimigkndakabW.PrintWords Go.Proofs.YtcecimigkndakabW.PrintLast Go.Proofs.YtcecimigkndakabW.PrintMore
attribute [local go_sem] max2_int min2_int max_two min_two max_three min_three max_four min_four   -- for this text's walks alone
set_option linter.unusedVariables false
set_option maxHeartbeats 8000000
set_option maxRecDepth 100000
set_option linter.unusedSimpArgs false

/-! ### laws_szIntS: function 13 -/
def laws_szIntS.f (l0 : List Int) (a1 : Int) : Option (Int):=if (wrap64 (a1 - (l0.length : Int))) < 0 then (some (-1)) else (some (wrap64 (a1 - (l0.length : Int))))
theorem laws_szIntS.calls (A0 : Option Addr) (c0 : Nat) (l0 : List Int) (a1 : Int) (r : Int) (w : World) (hr0 : Kd.C (Kd.int .i64) w A0 l0.length l0) (hc0 : l0.length ≤ c0) (h : laws_szIntS.f l0 a1 = some r) :
  Calls Try.prog 13 #[.slice A0 l0.length c0,.int .i64 a1] w fun e w'=>e = .returned (.int .i64 r)∧Drawn0 w w':=by
 have HR0:=AM hr0;have HC0:=AM hc0;clear hr0 hc0;have H : (if (wrap64 (a1 - (l0.length : Int))) < 0 then (some (-1)) else (some (wrap64 (a1 - (l0.length : Int))))) = some r:=h;clear h;by_cases c3 : (wrap64 (a1 - (l0.length : Int))) < 0
 ·rw [if_pos c3] at H;have c3b0:=DT c3;clear c3;obtain rfl:=Option.some.inj H;go_enter Try.func13,Try.ntmps13;go_wp2;go_ret;exact ⟨RF,DR⟩
 ·rw [if_neg c3] at H;have c3b0:=DF c3;clear c3;obtain rfl:=Option.some.inj H;go_enter Try.func13,Try.ntmps13;go_wp2;go_ret;exact ⟨RF,DR⟩

/-! ### laws_szIntSS: function 4 -/
def laws_szIntSS.l0 : Nat→List (List Int)→Int→Int→Option (Int)
 | 0,_,_,_=>none
 | k + 1,x0,x1,x5=>if x5 < (x0.length : Int) then (if 0 ≤ x5 then ((laws_szIntS.f (rd_L1 x0 x5) x1).bind fun t102=>(if t102 < 0 then (some (-1)) else (laws_szIntSS.l0 k x0 t102 (wrap64 (x5 + 1))))) else (none)) else (some x1)
def laws_szIntSS.f (k : Nat) (l0 : List (List Int)) (a1 : Int) : Option (Int):=if (wrap64 (a1 - (l0.length : Int))) < 0 then (some (-1)) else (laws_szIntSS.l0 k l0 (wrap64 (a1 - (l0.length : Int))) 0)
theorem laws_szIntSS.mono_l : ∀ k,(∀ y0 y1 y2,LeO (laws_szIntSS.l0 k y0 y1 y2) (laws_szIntSS.l0 (k + 1) y0 y1 y2))
 | 0=>fun _ _ _ r h=>by simp [laws_szIntSS.l0] at h
 | k + 1=>by
  have ih0:=laws_szIntSS.mono_l k
  ·intro y0 y1 y2
   unfold laws_szIntSS.l0
   exact MO
theorem laws_szIntSS.mono : ∀ a0 a1 k,LeO (laws_szIntSS.f k a0 a1) (laws_szIntSS.f (k + 1) a0 a1):=by
 intro a0 a1 k;have ih0:=laws_szIntSS.mono_l k;unfold laws_szIntSS.f
 exact MO
theorem laws_szIntSS.calls (k : Nat) (A0 : Option Addr) (c0 : Nat) (l0 : List (List Int)) (a1 : Int) (r : Int) (w : World) (hr0 : Kd.C (Kd.slice 3 (Kd.int .i64)) w A0 l0.length l0) (hc0 : l0.length ≤ c0) (h : laws_szIntSS.f k l0 a1 = some r) :
  Calls Try.prog 4 #[.slice A0 l0.length c0,.int .i64 a1] w fun e w'=>e = .returned (.int .i64 r)∧Drawn0 w w':=by
 have HR0:=AM hr0;have HC0:=AM hc0;clear hr0 hc0;have H : (if (wrap64 (a1 - (l0.length : Int))) < 0 then (some (-1)) else (laws_szIntSS.l0 k l0 (wrap64 (a1 - (l0.length : Int))) 0)) = some r:=h;clear h;by_cases c3 : (wrap64 (a1 - (l0.length : Int))) < 0
 ·rw [if_pos c3] at H;have c3b0:=DT c3;clear c3;obtain rfl:=Option.some.inj H;go_enter Try.func4,Try.ntmps4;go_wp2;go_ret;exact ⟨RF,DR⟩
 ·rw [if_neg c3] at H;have c3b0:=DF c3;clear c3;have H':=AM H;clear H;go_enter Try.func4,Try.ntmps4;go_wp2;go_loopg [1,5] k (fun kq v1 v5 w'=>∃ (x1_1 : Int) (x5_1 : Int),v1 = .int .i64 x1_1∧v5 = .int .i64 x5_1∧Aside0 (laws_szIntSS.l0 kq l0 x1_1 x5_1 = some r)∧Aside0 (kq ≤ k)∧Drawn0 w w')
  case atStart=>exact ⟨(wrap64 (a1 - (l0.length : Int))),(0),RF,RF,H',⟨Nat.le_refl _⟩,by repeat (first|exact Drawn0.refl _|apply Drawn0.step)⟩
  case round =>
   clear H';try clear p2
   try clear c3
   try clear c3b0
   obtain ⟨x1_1,x5_1,rfl,rfl,HA,HK1,⟨m1,rfl⟩⟩:=hrel;cases gk with
   | zero=>exact absurd HA.out (by simp [laws_szIntSS.l0])
   | succ k1 =>
    have H:=HA.out;clear HA;simp only [laws_szIntSS.l0] at H;by_cases c4 : x5_1 < (l0.length : Int)
    ·rw [if_pos c4] at H;have c4b0:=DT c4;clear c4;replace H:=IC H;obtain ⟨c5,H⟩:=H;have c5b0:=DT c5;clear c5;replace H:=EA H;obtain ⟨t102,A6,H⟩:=H;by_cases c7 : t102 < 0
     ·rw [if_pos c7] at H;have c7b0:=DT c7;clear c7;obtain rfl:=Option.some.inj H;have p101 : 0 ≤ (x5_1 : Int):=OD AS;have q101 : x5_1 < (l0.length : Int):=OD AS;obtain ⟨ad101,A101_0,c101_0,e101,hx101_0,hl101_0,hi101_0⟩:=at_L1 HR0.out x5_1 p101 q101;cases e101;have HR101_0:=AM hi101_0;have HC101_0:=AM hl101_0;clear hi101_0 hl101_0;replace p101:=ET p101;replace q101:=ET q101;go_wp2_with (first|(refine GC 13 ?_;refine GM (some 23) Try.func13 (laws_szIntS.calls _ _ (rd_L1 l0 x5_1) x1_1 t102 _ (CW HR101_0.out) HC101_0.out A6.out) ?_;rintro e w' ⟨rfl,⟨nd,rfl⟩⟩;refine ⟨_,rfl,?_⟩));go_ret;exact ⟨RF,DR⟩
     ·rw [if_neg c7] at H;have c7b0:=DF c7;clear c7;have H':=AM H;clear H;have p101 : 0 ≤ (x5_1 : Int):=OD AS;have q101 : x5_1 < (l0.length : Int):=OD AS;obtain ⟨ad101,A101_0,c101_0,e101,hx101_0,hl101_0,hi101_0⟩:=at_L1 HR0.out x5_1 p101 q101;cases e101;have HR101_0:=AM hi101_0;have HC101_0:=AM hl101_0;clear hi101_0 hl101_0;replace p101:=ET p101;replace q101:=ET q101;go_wp2_with (first|(refine GC 13 ?_;refine GM (some 23) Try.func13 (laws_szIntS.calls _ _ (rd_L1 l0 x5_1) x1_1 t102 _ (CW HR101_0.out) HC101_0.out A6.out) ?_;rintro e w' ⟨rfl,⟨nd,rfl⟩⟩;refine ⟨_,rfl,?_⟩));go_roundg k1
      case measure=>have:=HK1.out;omega
      case rel=>exact ⟨(t102),(wrap64 (x5_1 + 1)),RF,RF,H',⟨by have:=HK1.out;omega⟩,by repeat (first|exact Drawn0.refl _|apply Drawn0.step)⟩
    ·rw [if_neg c4] at H;have c4b0:=DF c4;clear c4;obtain rfl:=Option.some.inj H;go_wp2;go_ret;exact ⟨RF,DR⟩

/-! ### spec_l1In: function 40 -/
def spec_l1In.f (a0 : Int) (a1 : Int) (a2 : Int) : Option (Bool):=if a0 ≥ a1 then (some (decide (a0 ≤ a2))) else (some false)
theorem spec_l1In.calls (a0 : Int) (a1 : Int) (a2 : Int) (r : Bool) (w : World) (h : spec_l1In.f a0 a1 a2 = some r) :
  Calls Try.prog 40 #[.int .i64 a0,.int .i64 a1,.int .i64 a2] w fun e w'=>e = .returned (.bool r)∧Drawn0 w w':=by
 have H : (if a0 ≥ a1 then (some (decide (a0 ≤ a2))) else (some false)) = some r:=h;clear h;by_cases c4 : a0 ≥ a1
 ·rw [if_pos c4] at H;have c4b0:=DT c4;clear c4;obtain rfl:=Option.some.inj H;go_enter Try.func40,Try.ntmps40;go_wp2;go_ret;exact ⟨RF,DR⟩
 ·rw [if_neg c4] at H;have c4b0:=DF c4;clear c4;obtain rfl:=Option.some.inj H;go_enter Try.func40,Try.ntmps40;go_wp2;go_ret;exact ⟨RF,DR⟩

/-! ### spec_meSide: function 25 -/
def spec_meSide.f (a0 : Int) : Option (Bool):=(spec_l1In.f a0 1 8).bind fun t103=>(some t103)
theorem spec_meSide.calls (a0 : Int) (r : Bool) (w : World) (h : spec_meSide.f a0 = some r) :
  Calls Try.prog 25 #[.int .i64 a0] w fun e w'=>e = .returned (.bool r)∧Drawn0 w w':=by
 have H : ((spec_l1In.f a0 1 8).bind fun t103=>(some t103)) = some r:=h;clear h;replace H:=EA H;obtain ⟨t103,A2,H⟩:=H;obtain rfl:=Option.some.inj H;go_enter Try.func25,Try.ntmps25;go_wp2_with (first|(refine GC 40 ?_;refine GM (some 4) Try.func40 (spec_l1In.calls a0 1 8 t103 _ A2.out) ?_;rintro e w' ⟨rfl,⟨nd,rfl⟩⟩;refine ⟨_,rfl,?_⟩));go_ret;exact ⟨RF,DR⟩

/-! ### spec_l1All: function 26 -/
def spec_l1All.l0 : Nat→Int→Int→List Int→Int→Int→Option (Bool)
 | 0,_,_,_,_,_=>none
 | k + 1,x1,x2,x9,x10,x11=>if x11 < x10 then (if 0 ≤ x11 then (if x11 < (x9.length : Int) then ((spec_l1In.f (rd x9 x11) x1 x2).bind fun t105=>(if t105 = true then (spec_l1All.l0 k x1 x2 x9 x10 (wrap64 (x11 + 1))) else (some false))) else (none)) else (none)) else (some true)
def spec_l1All.f (k : Nat) (l0 : List Int) (a1 : Int) (a2 : Int) : Option (Bool):=spec_l1All.l0 k a1 a2 l0 (l0.length : Int) 0
theorem spec_l1All.mono_l : ∀ k,(∀ y0 y1 y2 y3 y4,LeO (spec_l1All.l0 k y0 y1 y2 y3 y4) (spec_l1All.l0 (k + 1) y0 y1 y2 y3 y4))
 | 0=>fun _ _ _ _ _ r h=>by simp [spec_l1All.l0] at h
 | k + 1=>by
  have ih0:=spec_l1All.mono_l k
  ·intro y0 y1 y2 y3 y4
   unfold spec_l1All.l0
   exact MO
theorem spec_l1All.mono : ∀ a0 a1 a2 k,LeO (spec_l1All.f k a0 a1 a2) (spec_l1All.f (k + 1) a0 a1 a2):=by
 intro a0 a1 a2 k;have ih0:=spec_l1All.mono_l k;unfold spec_l1All.f
 exact MO
theorem spec_l1All.calls (k : Nat) (A0 : Option Addr) (c0 : Nat) (l0 : List Int) (a1 : Int) (a2 : Int) (r : Bool) (w : World) (hr0 : Kd.C (Kd.int .i64) w A0 l0.length l0) (hc0 : l0.length ≤ c0) (h : spec_l1All.f k l0 a1 a2 = some r) :
  Calls Try.prog 26 #[.slice A0 l0.length c0,.int .i64 a1,.int .i64 a2] w fun e w'=>e = .returned (.bool r)∧Drawn0 w w':=by
 have HR0:=AM hr0;have HC0:=AM hc0;clear hr0 hc0;have H : (spec_l1All.l0 k a1 a2 l0 (l0.length : Int) 0) = some r:=h;clear h;have H':=AM H;clear H;go_enter Try.func26,Try.ntmps26;go_wp2;go_loopg [11] k (fun kq v11 w'=>∃ (x11_1 : Int),v11 = .int .i64 x11_1∧Aside0 (spec_l1All.l0 kq a1 a2 l0 (l0.length : Int) x11_1 = some r)∧Aside0 (kq ≤ k)∧Drawn0 w w')
 case atStart=>exact ⟨(0),RF,H',⟨Nat.le_refl _⟩,by repeat (first|exact Drawn0.refl _|apply Drawn0.step)⟩
 case round =>
  clear H';try clear c2
  try clear p2
  obtain ⟨x11_1,rfl,HA,HK1,⟨m1,rfl⟩⟩:=hrel;cases gk with
  | zero=>exact absurd HA.out (by simp [spec_l1All.l0])
  | succ k1 =>
   have H:=HA.out;clear HA;simp only [spec_l1All.l0] at H;by_cases c4 : x11_1 < (l0.length : Int)
   ·rw [if_pos c4] at H;have c4b0:=DT c4;clear c4;replace H:=IC H;obtain ⟨c5,H⟩:=H;have c5b0:=DT c5;clear c5;replace H:=IC H;obtain ⟨c6,H⟩:=H;have c6b0:=DT c6;clear c6;replace H:=EA H;obtain ⟨t105,A7,H⟩:=H;by_cases c8 : t105 = true
    ·subst c8;replace H:=IP H;have H':=AM H;clear H;have p104 : 0 ≤ (x11_1 : Int):=OD AS;have q104 : x11_1 < (l0.length : Int):=OD AS;obtain ⟨ad104,e104,hx104_0⟩:=Kd.at_int HR0.out x11_1 p104 q104;cases e104;replace p104:=ET p104;replace q104:=ET q104;go_wp2_with (first|(refine GC 40 ?_;refine GM (some 18) Try.func40 (spec_l1In.calls (rd l0 x11_1) a1 a2 true _ A7.out) ?_;rintro e w' ⟨rfl,⟨nd,rfl⟩⟩;refine ⟨_,rfl,?_⟩));go_roundg k1
     case measure=>have:=HK1.out;omega
     case rel=>exact ⟨(wrap64 (x11_1 + 1)),RF,H',⟨by have:=HK1.out;omega⟩,by repeat (first|exact Drawn0.refl _|apply Drawn0.step)⟩
    ·replace c8:=NF c8;subst c8;replace H:=IN H;obtain rfl:=Option.some.inj H;have p104 : 0 ≤ (x11_1 : Int):=OD AS;have q104 : x11_1 < (l0.length : Int):=OD AS;obtain ⟨ad104,e104,hx104_0⟩:=Kd.at_int HR0.out x11_1 p104 q104;cases e104;replace p104:=ET p104;replace q104:=ET q104;go_wp2_with (first|(refine GC 40 ?_;refine GM (some 18) Try.func40 (spec_l1In.calls (rd l0 x11_1) a1 a2 false _ A7.out) ?_;rintro e w' ⟨rfl,⟨nd,rfl⟩⟩;refine ⟨_,rfl,?_⟩));go_ret;exact ⟨RF,DR⟩
   ·rw [if_neg c4] at H;have c4b0:=DF c4;clear c4;obtain rfl:=Option.some.inj H;go_wp2;go_ret;exact ⟨RF,DR⟩

/-! ### spec_ckTastes: function 14 -/
mutual
def spec_ckTastes.j0 : Nat→Int→List (List Int)→Bool→Option (Bool)
 | 0,_,_,_=>none
 | k + 1,x0,x1,x14=>if x14 = true then (some false) else (spec_ckTastes.l0 k x0 x1 (x1.length : Int) 0)
def spec_ckTastes.l0 : Nat→Int→List (List Int)→Int→Int→Option (Bool)
 | 0,_,_,_,_=>none
 | k + 1,x0,x15,x16,x17=>if x17 < x16 then (if 0 ≤ x17 then (if x17 < (x15.length : Int) then (if ((rd_L1 x15 x17).length : Int) = x0 then ((spec_l1All.f k (rd_L1 x15 x17) 0 9).bind fun t108=>(if t108 = true then (spec_ckTastes.l0 k x0 x15 x16 (wrap64 (x17 + 1))) else (some false))) else (some false)) else (none)) else (none)) else (some true)
end
def spec_ckTastes.f (k : Nat) (a0 : Int) (l1 : List (List Int)) : Option (Bool):=(spec_meSide.f a0).bind fun t106=>(if t106 = true then (spec_ckTastes.j0 k a0 l1 ((l1.length : Int) != 3)) else (spec_ckTastes.j0 k a0 l1 true))
theorem spec_ckTastes.mono_l : ∀ k,(∀ y0 y1 y2,LeO (spec_ckTastes.j0 k y0 y1 y2) (spec_ckTastes.j0 (k + 1) y0 y1 y2))∧(∀ y0 y1 y2 y3,LeO (spec_ckTastes.l0 k y0 y1 y2 y3) (spec_ckTastes.l0 (k + 1) y0 y1 y2 y3))
 | 0=>⟨fun _ _ _=>LZ,fun _ _ _ _=>LZ⟩
 | k + 1=>by
  obtain ⟨ih0,ih1⟩:=spec_ckTastes.mono_l k
  have m0:=@spec_l1All.mono
  refine ⟨?_,?_⟩ <;> intros
  all_goals (first|unfold spec_ckTastes.j0|unfold spec_ckTastes.l0)
  all_goals exact MO
theorem spec_ckTastes.mono : ∀ a0 a1 k,LeO (spec_ckTastes.f k a0 a1) (spec_ckTastes.f (k + 1) a0 a1):=by
 intro a0 a1 k;obtain ⟨ih0,ih1⟩:=spec_ckTastes.mono_l k;unfold spec_ckTastes.f
 have m0:=@spec_l1All.mono
 exact MO
theorem spec_ckTastes.calls (k : Nat) (a0 : Int) (A1 : Option Addr) (c1 : Nat) (l1 : List (List Int)) (r : Bool) (w : World) (hr1 : Kd.C (Kd.slice 3 (Kd.int .i64)) w A1 l1.length l1) (hc1 : l1.length ≤ c1) (h : spec_ckTastes.f k a0 l1 = some r) :
  Calls Try.prog 14 #[.int .i64 a0,.slice A1 l1.length c1] w fun e w'=>e = .returned (.bool r)∧Drawn0 w w':=by
 have HR1:=AM hr1;have HC1:=AM hc1;clear hr1 hc1;have H : ((spec_meSide.f a0).bind fun t106=>(if t106 = true then (spec_ckTastes.j0 k a0 l1 ((l1.length : Int) != 3)) else (spec_ckTastes.j0 k a0 l1 true))) = some r:=h;clear h;have HC3:=AM H;clear H;go_enter Try.func14,Try.ntmps14;go_upto_region 1 with (fail)
 go_cut [14] (fun v14 wc=>∃ (kq : Nat) (x14_2 : Bool),v14 = .bool x14_2∧Aside0 (spec_ckTastes.j0 kq a0 l1 x14_2 = some r)∧Aside0 (kq ≤ k)∧Drawn0 w wc)
 case first =>
  have H:=HC3.out;clear HC3;replace H:=EA H;obtain ⟨t106,A4,H⟩:=H;by_cases c5 : t106 = true
  ·subst c5;replace H:=IP H;have H':=AM H;clear H;go_wp2_with (first|(refine GC 25 ?_;refine GM (some 8) Try.func25 (spec_meSide.calls a0 true _ A4.out) ?_;rintro e w' ⟨rfl,⟨nd,rfl⟩⟩;refine ⟨_,rfl,?_⟩));go_meet
   case rel=>exact ⟨_,(((l1.length : Int) != 3)),RF,H',⟨by first|omega|exact Nat.le_refl _⟩,by repeat (first|exact Drawn0.refl _|apply Drawn0.step)⟩
  ·replace c5:=NF c5;subst c5;replace H:=IN H;have H':=AM H;clear H;go_wp2_with (first|(refine GC 25 ?_;refine GM (some 8) Try.func25 (spec_meSide.calls a0 false _ A4.out) ?_;rintro e w' ⟨rfl,⟨nd,rfl⟩⟩;refine ⟨_,rfl,?_⟩));go_meet
   case rel=>exact ⟨_,(true),RF,H',⟨by first|omega|exact Nat.le_refl _⟩,by repeat (first|exact Drawn0.refl _|apply Drawn0.step)⟩
 case rest =>
  clear HC3;try clear c1
  try clear c2
  try clear p2
  try clear c5
  obtain ⟨kq,x14_2,rfl,HA,HJ2,⟨mc2,rfl⟩⟩:=hcut;cases kq with
  | zero=>exact absurd HA.out (by simp [spec_ckTastes.j0])
  | succ kj2 =>
   have H:=HA.out;clear HA;simp only [spec_ckTastes.j0] at H;by_cases c6 : x14_2 = true
   ·subst c6;replace H:=IP H;obtain rfl:=Option.some.inj H;go_wp2;go_ret;exact ⟨RF,DR⟩
   ·replace c6:=NF c6;subst c6;replace H:=IN H;have H':=AM H;clear H;go_wp2;go_loopg [17] kj2 (fun kq v17 w'=>∃ (x17_2 : Int),v17 = .int .i64 x17_2∧Aside0 (spec_ckTastes.l0 kq a0 l1 (l1.length : Int) x17_2 = some r)∧Aside0 (kq ≤ kj2)∧Drawn0 w w')
    case atStart=>exact ⟨(0),RF,H',⟨Nat.le_refl _⟩,by repeat (first|exact Drawn0.refl _|apply Drawn0.step)⟩
    case round =>
     clear H';try clear c1
     try clear c2
     try clear p2
     try clear c5
     try clear c6
     try clear p6
     try clear p2
     obtain ⟨x17_2,rfl,HA,HK2,⟨m2,rfl⟩⟩:=hrel;cases gk with
     | zero=>exact absurd HA.out (by simp [spec_ckTastes.l0])
     | succ k2 =>
      have H:=HA.out;clear HA;simp only [spec_ckTastes.l0] at H;by_cases c7 : x17_2 < (l1.length : Int)
      ·rw [if_pos c7] at H;have c7b0:=DT c7;clear c7;replace H:=IC H;obtain ⟨c8,H⟩:=H;have c8b0:=DT c8;clear c8;replace H:=IC H;obtain ⟨c9,H⟩:=H;have c9b0:=DT c9;clear c9;by_cases c10 : ((rd_L1 l1 x17_2).length : Int) = a0
       ·rw [if_pos c10] at H;have c10b0:=QT c10;have c10b1:=bne_eq_false_iff_eq.mpr c10;clear c10;replace H:=EA H;obtain ⟨t108,A11,H⟩:=H;by_cases c12 : t108 = true
        ·subst c12;replace H:=IP H;have H':=AM H;clear H;have p107 : 0 ≤ (x17_2 : Int):=OD AS;have q107 : x17_2 < (l1.length : Int):=OD AS;obtain ⟨ad107,A107_0,c107_0,e107,hx107_0,hl107_0,hi107_0⟩:=at_L1 HR1.out x17_2 p107 q107;cases e107;have HR107_0:=AM hi107_0;have HC107_0:=AM hl107_0;clear hi107_0 hl107_0;replace p107:=ET p107;replace q107:=ET q107;go_wp2_with (first|(go_at_call 26;(with_reducible refine (spec_l1All.calls k2 _ _ (rd_L1 l1 x17_2) 0 9 true _ (CW HR107_0.out) HC107_0.out A11.out).mono ?_);rintro e w' ⟨rfl,⟨nd,rfl⟩⟩));go_roundg k2
         case measure=>have:=HJ2.out;have:=HK2.out;omega
         case rel=>exact ⟨(wrap64 (x17_2 + 1)),RF,H',⟨by have:=HJ2.out;have:=HK2.out;omega⟩,by repeat (first|exact Drawn0.refl _|apply Drawn0.step)⟩
        ·replace c12:=NF c12;subst c12;replace H:=IN H;obtain rfl:=Option.some.inj H;have p107 : 0 ≤ (x17_2 : Int):=OD AS;have q107 : x17_2 < (l1.length : Int):=OD AS;obtain ⟨ad107,A107_0,c107_0,e107,hx107_0,hl107_0,hi107_0⟩:=at_L1 HR1.out x17_2 p107 q107;cases e107;have HR107_0:=AM hi107_0;have HC107_0:=AM hl107_0;clear hi107_0 hl107_0;replace p107:=ET p107;replace q107:=ET q107;go_wp2_with (first|(go_at_call 26;(with_reducible refine (spec_l1All.calls k2 _ _ (rd_L1 l1 x17_2) 0 9 false _ (CW HR107_0.out) HC107_0.out A11.out).mono ?_);rintro e w' ⟨rfl,⟨nd,rfl⟩⟩));go_ret;exact ⟨RF,DR⟩
       ·rw [if_neg c10] at H;have c10b0:=beq_eq_false_iff_ne.mpr c10;have c10b1:=bne_iff_ne.mpr c10;obtain rfl:=Option.some.inj H;have p107 : 0 ≤ (x17_2 : Int):=OD AS;have q107 : x17_2 < (l1.length : Int):=OD AS;obtain ⟨ad107,A107_0,c107_0,e107,hx107_0,hl107_0,hi107_0⟩:=at_L1 HR1.out x17_2 p107 q107;cases e107;have HR107_0:=AM hi107_0;have HC107_0:=AM hl107_0;clear hi107_0 hl107_0;replace p107:=ET p107;replace q107:=ET q107;go_wp2;go_ret;exact ⟨RF,DR⟩
      ·rw [if_neg c7] at H;have c7b0:=DF c7;clear c7;obtain rfl:=Option.some.inj H;go_wp2;go_ret;exact ⟨RF,DR⟩

/-! ### spec_meAt: function 34 -/
def spec_meAt.l0 : Nat→Int→Int→Int→Option (List Int)
 | 0,_,_,_=>none
 | k + 1,x0,x1,x5=>if x1 > x5 then (spec_meAt.l0 k x0 (wrap64 (x1 - (wrap64 (x5 + 1)))) (wrap64 (x5 + 1))) else (some (([wrap64 (x0 - x5),wrap64 (x5 - x1),x1] : List Int)))
def spec_meAt.f (k : Nat) (a0 : Int) (a1 : Int) : Option (List Int):=spec_meAt.l0 k a0 a1 0
theorem spec_meAt.mono_l : ∀ k,(∀ y0 y1 y2,LeO (spec_meAt.l0 k y0 y1 y2) (spec_meAt.l0 (k + 1) y0 y1 y2))
 | 0=>fun _ _ _ r h=>by simp [spec_meAt.l0] at h
 | k + 1=>by
  have ih0:=spec_meAt.mono_l k
  ·intro y0 y1 y2
   unfold spec_meAt.l0
   exact MO
theorem spec_meAt.mono : ∀ a0 a1 k,LeO (spec_meAt.f k a0 a1) (spec_meAt.f (k + 1) a0 a1):=by
 intro a0 a1 k;have ih0:=spec_meAt.mono_l k;unfold spec_meAt.f
 exact MO
theorem spec_meAt.calls (k : Nat) (a0 : Int) (a1 : Int) (r : List Int) (w : World) (h : spec_meAt.f k a0 a1 = some r) :
  Calls Try.prog 34 #[.int .i64 a0,.int .i64 a1] w fun e w'=>∃ v0_ : Value,e = .returned (v0_)∧Kd.R (Kd.int .i64) 3 w' w.heap.size (fun _=>True) v0_ r∧Below w.heap.size w w':=by
 have HB:=HRf w;have H : (spec_meAt.l0 k a0 a1 0) = some r:=h;clear h;have H':=AM H;clear H;go_enter Try.func34,Try.ntmps34;go_wp2;go_loopg [1,5] k (fun kq v1 v5 w'=>∃ (x1_1 : Int) (x5_1 : Int),v1 = .int .i64 x1_1∧v5 = .int .i64 x5_1∧Aside0 (spec_meAt.l0 kq a0 x1_1 x5_1 = some r)∧Aside0 (kq ≤ k)∧Aside0 (Below w.heap.size w w'))
 case atStart=>exact ⟨(a1),(0),RF,RF,H',⟨Nat.le_refl _⟩,⟨BB⟩⟩
 case round =>
  clear H';try clear p2
  obtain ⟨x1_1,x5_1,rfl,rfl,HA,HK1,HB⟩:=hrel;cases gk with
  | zero=>exact absurd HA.out (by simp [spec_meAt.l0])
  | succ k1 =>
   have H:=HA.out;clear HA;simp only [spec_meAt.l0] at H;by_cases c3 : x1_1 > x5_1
   ·rw [if_pos c3] at H;have c3b0:=DT c3;clear c3;have H':=AM H;clear H;go_wp2;go_roundg k1
    case measure=>have:=HK1.out;omega
    case rel=>exact ⟨(wrap64 (x1_1 - (wrap64 (x5_1 + 1)))),(wrap64 (x5_1 + 1)),RF,RF,H',⟨by have:=HK1.out;omega⟩,⟨BB⟩⟩
   ·rw [if_neg c3] at H;have c3b0:=DF c3;clear c3;obtain ⟨y109,hy109⟩ : ∃ y_ : List Int,y_ = (([wrap64 (a0 - x5_1),wrap64 (x5_1 - x1_1),x1_1] : List Int)):=⟨_,rfl⟩;replace H : (some y109) = some r:=HY H hy109;have Ny109:=AM hy109;clear hy109;obtain rfl:=Option.some.inj H;go_wp2_with (first|((with_reducible refine gate_dst (N:=22) rfl ?_);refine Kd.R_lit (Kd.int .i64) _ 3 ?hg (N:=22) ?hd (xs:=([wrap64 (a0 - x5_1),wrap64 (x5_1 - x1_1),x1_1] : List Int)) (inner:=[.int .i64 (wrap64 (a0 - x5_1)),.int .i64 (wrap64 (x5_1 - x1_1)),.int .i64 x1_1]) (ok:=fun _=>True) (okp:=fun _=>True) ?hr ?hp (fun _ hk=>hk) trivial (Below.refl _ _) (Nat.le_refl _) (by simp) ?_;(case hd=>rfl);(case hg=>rfl);(case hr=>exact GS);(case hp=>exact (Reps.one (show Kd.M (Kd.int .i64) _ _ _ (wrap64 (a0 - x5_1)) [.int .i64 (wrap64 (a0 - x5_1))] from rfl) (Reps.one (show Kd.M (Kd.int .i64) _ _ _ (wrap64 (x5_1 - x1_1)) [.int .i64 (wrap64 (x5_1 - x1_1))] from rfl) (Reps.one (show Kd.M (Kd.int .i64) _ _ _ x1_1 [.int .i64 x1_1] from rfl) (Reps.none _ _)))));intro v110 w4 ho5 hb hg_ hnew_;clear hg_ hnew_;(first|rw [← Ny109.out] at ho5|(simp only [Int.reduceToNat] at ho5;rw [← Ny109.out] at ho5));have HO111:=AM (Kd.R_lower ho5 (BZ BB));replace HB:=HS hb;clear hb ho5));go_ret;exact ⟨_,RE,KR HO111,BB⟩

/-! ### spec_ckOwner: function 18 -/
def spec_ckOwner.f (k : Nat) (a0 : Int) (a1 : Int) : Option (Int):=(spec_meAt.f k a0 a1).bind fun t112=>(if 1 < (t112.length : Int) then (if 2 < (t112.length : Int) then (some (Int.tmod (wrap64 ((rd t112 1) + (wrap64 (2 * (rd t112 2))))) 3)) else (none)) else (none))
theorem spec_ckOwner.mono : ∀ a0 a1 k,LeO (spec_ckOwner.f k a0 a1) (spec_ckOwner.f (k + 1) a0 a1):=by
 intro a0 a1 k;unfold spec_ckOwner.f
 have m0:=@spec_meAt.mono
 exact MO
theorem spec_ckOwner.calls (k : Nat) (a0 : Int) (a1 : Int) (r : Int) (w : World) (h : spec_ckOwner.f k a0 a1 = some r) :
  Calls Try.prog 18 #[.int .i64 a0,.int .i64 a1] w fun e w'=>e = .returned (.int .i64 r)∧Below w.heap.size w w':=by
 have HB:=HRf w;have H : ((spec_meAt.f k a0 a1).bind fun t112=>(if 1 < (t112.length : Int) then (if 2 < (t112.length : Int) then (some (Int.tmod (wrap64 ((rd t112 1) + (wrap64 (2 * (rd t112 2))))) 3)) else (none)) else (none))) = some r:=h;clear h;replace H:=EA H;obtain ⟨t112,A3,H⟩:=H;replace H:=IC H;obtain ⟨c4,H⟩:=H;have c4b0:=DT c4;have c4b1 : decide (1 < t112.length) = true:=DT (by omega);clear c4;replace H:=IC H;obtain ⟨c5,H⟩:=H;have c5b0:=DT c5;have c5b1 : decide (2 < t112.length) = true:=DT (by omega);clear c5;obtain rfl:=Option.some.inj H;go_enter Try.func18,Try.ntmps18;go_wp2_with (first|(go_at_call 34;(with_reducible refine (spec_meAt.calls k a0 a1 t112 _ A3.out).mono ?_);rintro e w6 ⟨v113,rfl,ho0,hb⟩;have HO114:=AM (Kd.R_lower ho0 (BZ BB));replace HB:=HS hb;try clear hb ho0;obtain ⟨Ao7,co7,eo7⟩:=Kd.R_slice HO114.out;subst eo7;have p115 : 0 ≤ (1 : Int):=(by omega);have q115 : 1 < (t112.length : Int):=OD AS;obtain ⟨ad115,e115,hx115_0⟩:=Kd.at_int (Kd.R_reads' HO114.out).2.2 1 p115 q115;cases e115;(try simp only [show (1 : Int).toNat = 1 from rfl,Nat.reduceMul,Nat.reduceEqDiff,Go.Addr.add,↓reduceIte] at hx115_0);have qi115 : (1 < t112.length) = True:=ET (by omega);(try rw [show ((1 : Int)).toNat = 1 from rfl] at hx115_0);replace p115:=ET p115;replace q115:=ET q115;have p116 : 0 ≤ (2 : Int):=(by omega);have q116 : 2 < (t112.length : Int):=OD AS;obtain ⟨ad116,e116,hx116_0⟩:=Kd.at_int (Kd.R_reads' HO114.out).2.2 2 p116 q116;obtain rfl : ad115 = ad116:=(by injection e116);(try simp only [show (2 : Int).toNat = 2 from rfl,Nat.reduceMul,Nat.reduceEqDiff,Go.Addr.add,↓reduceIte] at hx116_0);have qi116 : (2 < t112.length) = True:=ET (by omega);(try rw [show ((2 : Int)).toNat = 2 from rfl] at hx116_0);replace p116:=ET p116;replace q116:=ET q116));repeat (go_quiet (first|(go_at_call 34;(with_reducible refine (spec_meAt.calls k a0 a1 t112 _ A3.out).mono ?_);rintro e w6 ⟨v113,rfl,ho0,hb⟩;have HO114:=AM (Kd.R_lower ho0 (BZ BB));replace HB:=HS hb;try clear hb ho0;obtain ⟨Ao7,co7,eo7⟩:=Kd.R_slice HO114.out;subst eo7;have p115 : 0 ≤ (1 : Int):=(by omega);have q115 : 1 < (t112.length : Int):=OD AS;obtain ⟨ad115,e115,hx115_0⟩:=Kd.at_int (Kd.R_reads' HO114.out).2.2 1 p115 q115;cases e115;(try simp only [show (1 : Int).toNat = 1 from rfl,Nat.reduceMul,Nat.reduceEqDiff,Go.Addr.add,↓reduceIte] at hx115_0);have qi115 : (1 < t112.length) = True:=ET (by omega);(try rw [show ((1 : Int)).toNat = 1 from rfl] at hx115_0);replace p115:=ET p115;replace q115:=ET q115;have p116 : 0 ≤ (2 : Int):=(by omega);have q116 : 2 < (t112.length : Int):=OD AS;obtain ⟨ad116,e116,hx116_0⟩:=Kd.at_int (Kd.R_reads' HO114.out).2.2 2 p116 q116;obtain rfl : ad115 = ad116:=(by injection e116);(try simp only [show (2 : Int).toNat = 2 from rfl,Nat.reduceMul,Nat.reduceEqDiff,Go.Addr.add,↓reduceIte] at hx116_0);have qi116 : (2 < t112.length) = True:=ET (by omega);(try rw [show ((2 : Int)).toNat = 2 from rfl] at hx116_0);replace p116:=ET p116;replace q116:=ET q116));try go_wp2_with (first|(go_at_call 34;(with_reducible refine (spec_meAt.calls k a0 a1 t112 _ A3.out).mono ?_);rintro e w6 ⟨v113,rfl,ho0,hb⟩;have HO114:=AM (Kd.R_lower ho0 (BZ BB));replace HB:=HS hb;try clear hb ho0;obtain ⟨Ao7,co7,eo7⟩:=Kd.R_slice HO114.out;subst eo7;have p115 : 0 ≤ (1 : Int):=(by omega);have q115 : 1 < (t112.length : Int):=OD AS;obtain ⟨ad115,e115,hx115_0⟩:=Kd.at_int (Kd.R_reads' HO114.out).2.2 1 p115 q115;cases e115;(try simp only [show (1 : Int).toNat = 1 from rfl,Nat.reduceMul,Nat.reduceEqDiff,Go.Addr.add,↓reduceIte] at hx115_0);have qi115 : (1 < t112.length) = True:=ET (by omega);(try rw [show ((1 : Int)).toNat = 1 from rfl] at hx115_0);replace p115:=ET p115;replace q115:=ET q115;have p116 : 0 ≤ (2 : Int):=(by omega);have q116 : 2 < (t112.length : Int):=OD AS;obtain ⟨ad116,e116,hx116_0⟩:=Kd.at_int (Kd.R_reads' HO114.out).2.2 2 p116 q116;obtain rfl : ad115 = ad116:=(by injection e116);(try simp only [show (2 : Int).toNat = 2 from rfl,Nat.reduceMul,Nat.reduceEqDiff,Go.Addr.add,↓reduceIte] at hx116_0);have qi116 : (2 < t112.length) = True:=ET (by omega);(try rw [show ((2 : Int)).toNat = 2 from rfl] at hx116_0);replace p116:=ET p116;replace q116:=ET q116)))
 go_ret;exact ⟨RE,BB⟩

/-! ### spec_meCount: function 27 -/
def spec_meCount.f (a0 : Int) : Option (Int):=some (wrap64 (Int.tdiv (wrap64 ((wrap64 (a0 + 1)) * (wrap64 (a0 + 2)))) 2))
theorem spec_meCount.calls (a0 : Int) (r : Int) (w : World) (h : spec_meCount.f a0 = some r) :
  Calls Try.prog 27 #[.int .i64 a0] w fun e w'=>e = .returned (.int .i64 r)∧Drawn0 w w':=by
 have H : (some (wrap64 (Int.tdiv (wrap64 ((wrap64 (a0 + 1)) * (wrap64 (a0 + 2)))) 2))) = some r:=h;clear h;obtain rfl:=Option.some.inj H;go_enter Try.func27,Try.ntmps27;go_wp2;go_ret;exact ⟨RF,DR⟩

end Go.Proofs.Ytcecimigkndakab.PFnExactFairCut
