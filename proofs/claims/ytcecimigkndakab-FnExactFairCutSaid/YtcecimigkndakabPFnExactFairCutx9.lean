-- Written by a program of this session (wip/tools/pp.sh) out of the translation; Lean checks it.
import Derived.Test.YtcecimigkndakabPFnExactFairCutx8
namespace Go.Proofs.Ytcecimigkndakab.PFnExactFairCut
open Go.RowKit Go.Proofs.YtcecimigkndakabOwn Go.Proofs.YtcecimigkndakabW.PrintWords Go.Proofs.YtcecimigkndakabW.PrintLast Go.Proofs.YtcecimigkndakabW.PrintMore
attribute [local go_sem] max2_int min2_int max_two min_two max_three min_three max_four min_four   -- for this text's walks alone
set_option linter.unusedVariables false
set_option maxHeartbeats 8000000
set_option maxRecDepth 100000
set_option linter.unusedSimpArgs false

/-! ### slices_ContainsFunc_int_int__impl_areLists_1_1: function 63 -/
def slices_ContainsFunc_int_int__impl_areLists_1_1.f (k : Nat) (l0 : List Int) (l1_0 : List Int) : Option (Bool):=(slices_IndexFunc_int_int__impl_areLists_1_1.f k l0 l1_0).bind fun t303=>(some (decide (t303 ≥ 0)))
theorem slices_ContainsFunc_int_int__impl_areLists_1_1.mono : ∀ a0 a1 k,LeO (slices_ContainsFunc_int_int__impl_areLists_1_1.f k a0 a1) (slices_ContainsFunc_int_int__impl_areLists_1_1.f (k + 1) a0 a1):=by
 intro a0 a1 k;unfold slices_ContainsFunc_int_int__impl_areLists_1_1.f
 have m0:=@slices_IndexFunc_int_int__impl_areLists_1_1.mono
 exact MO
theorem slices_ContainsFunc_int_int__impl_areLists_1_1.calls (k : Nat) (A0 : Option Addr) (c0 : Nat) (l0 : List Int) (A1_0 : Option Addr) (c1_0 : Nat) (l1_0 : List Int) (r : Bool) (w : World) (hr0 : Kd.C (Kd.int .i64) w A0 l0.length l0) (hc0 : l0.length ≤ c0) (hr1_0 : Kd.C (Kd.int .i64) w A1_0 l1_0.length l1_0) (hc1_0 : l1_0.length ≤ c1_0) (h : slices_ContainsFunc_int_int__impl_areLists_1_1.f k l0 l1_0 = some r) :
  Calls Try.prog 63 #[.slice A0 l0.length c0,.func (.func 64) #[] #[.pointer A1_0]] w fun e w'=>e = .returned (.bool r)∧Drawn0 w w':=by
 have HR0:=AM hr0;have HC0:=AM hc0;clear hr0 hc0;have HR1_0:=AM hr1_0;have HC1_0:=AM hc1_0;clear hr1_0 hc1_0;have H : ((slices_IndexFunc_int_int__impl_areLists_1_1.f k l0 l1_0).bind fun t303=>(some (decide (t303 ≥ 0)))) = some r:=h;clear h;replace H:=EA H;obtain ⟨t303,A3,H⟩:=H;obtain rfl:=Option.some.inj H;go_enter Try.func63,Try.ntmps63;go_wp2_with (first|(refine GC 76 ?_;refine GM (some 7) Try.func76 (slices_IndexFunc_int_int__impl_areLists_1_1.calls k _ _ l0 A1_0 c1_0 l1_0 t303 _ (CW HR0.out) HC0.out (CW HR1_0.out) HC1_0.out A3.out) ?_;rintro e w' ⟨rfl,⟨nd,rfl⟩⟩;refine ⟨_,rfl,?_⟩));go_ret;exact ⟨RF,DR⟩

/-! ### impl_areLists_1: function 62 -/
def impl_areLists_1.f (k : Nat) (l0 : List Int) (l1 : List Int) (l2 : List Int) : Option (Bool):=if 0 < (l1.length : Int) then (if (l0.length : Int) = (rd l1 0) then ((slices_ContainsFunc_int_int__impl_areLists_1_1.f k l0 l2).bind fun t305=>(some t305)) else (some true)) else (none)
theorem impl_areLists_1.mono : ∀ a0 a1 a2 k,LeO (impl_areLists_1.f k a0 a1 a2) (impl_areLists_1.f (k + 1) a0 a1 a2):=by
 intro a0 a1 a2 k;unfold impl_areLists_1.f
 have m0:=@slices_ContainsFunc_int_int__impl_areLists_1_1.mono
 exact MO
theorem impl_areLists_1.calls (k : Nat) (A0 : Option Addr) (c0 : Nat) (l0 : List Int) (A1 : Option Addr) (c1 : Nat) (l1 : List Int) (A2 : Option Addr) (c2 : Nat) (l2 : List Int) (r : Bool) (w : World) (hr0 : Kd.C (Kd.int .i64) w A0 l0.length l0) (hc0 : l0.length ≤ c0) (hr1 : Kd.C (Kd.int .i64) w A1 l1.length l1) (hc1 : l1.length ≤ c1) (hr2 : Kd.C (Kd.int .i64) w A2 l2.length l2) (hc2 : l2.length ≤ c2) (h : impl_areLists_1.f k l0 l1 l2 = some r) :
  Calls Try.prog 62 #[.slice A0 l0.length c0,.pointer A1,.pointer A2] w fun e w'=>e = .returned (.bool r)∧Drawn0 w w':=by
 have HR0:=AM hr0;have HC0:=AM hc0;clear hr0 hc0;have HR1:=AM hr1;have HC1:=AM hc1;clear hr1 hc1;have HR2:=AM hr2;have HC2:=AM hc2;clear hr2 hc2;have H : (if 0 < (l1.length : Int) then (if (l0.length : Int) = (rd l1 0) then ((slices_ContainsFunc_int_int__impl_areLists_1_1.f k l0 l2).bind fun t305=>(some t305)) else (some true)) else (none)) = some r:=h;clear h;replace H:=IC H;obtain ⟨c4,H⟩:=H;have c4b0:=DT c4;have c4b1 : decide (0 < l1.length) = true:=DT (by omega);clear c4;by_cases c5 : (l0.length : Int) = (rd l1 0)
 ·rw [if_pos c5] at H;have c5b0:=QT c5;have c5b1:=bne_eq_false_iff_eq.mpr c5;clear c5;replace H:=EA H;obtain ⟨t305,A6,H⟩:=H;obtain rfl:=Option.some.inj H;have p304 : 0 ≤ (0 : Int):=(by omega);have q304 : 0 < (l1.length : Int):=OD AS;obtain ⟨ad304,e304,hx304_0⟩:=Kd.at_int HR1.out 0 p304 q304;cases e304;have qi304 : (0 < l1.length) = True:=ET (by omega)
  (try rw [show ((0 : Int)).toNat = 0 from rfl] at hx304_0)
  (try rw [Addr.add_zero'] at hx304_0);replace p304:=ET p304;replace q304:=ET q304;go_enter Try.func62,Try.ntmps62;go_wp2_with (first|(go_at_call 63;(with_reducible refine (slices_ContainsFunc_int_int__impl_areLists_1_1.calls k _ _ l0 A2 c2 l2 t305 _ (CW HR0.out) HC0.out (CW HR2.out) HC2.out A6.out).mono ?_);rintro e w' ⟨rfl,⟨nd,rfl⟩⟩));go_ret;exact ⟨RF,DR⟩
 ·rw [if_neg c5] at H;have c5b0:=beq_eq_false_iff_ne.mpr c5;have c5b1:=bne_iff_ne.mpr c5;obtain rfl:=Option.some.inj H;have p304 : 0 ≤ (0 : Int):=(by omega);have q304 : 0 < (l1.length : Int):=OD AS;obtain ⟨ad304,e304,hx304_0⟩:=Kd.at_int HR1.out 0 p304 q304;cases e304;have qi304 : (0 < l1.length) = True:=ET (by omega)
  (try rw [show ((0 : Int)).toNat = 0 from rfl] at hx304_0)
  (try rw [Addr.add_zero'] at hx304_0);replace p304:=ET p304;replace q304:=ET q304;go_enter Try.func62,Try.ntmps62;go_wp2;go_ret;exact ⟨RF,DR⟩

/-! ### slices_IndexFunc_int_int__impl_areLists_1: function 75 -/
def slices_IndexFunc_int_int__impl_areLists_1.l0 : Nat→List (List Int)→Int→Int→List Int→List Int→Option (Int)
 | 0,_,_,_,_,_=>none
 | k + 1,x0,x7,x8,x610,x611=>if x8 < x7 then (if 0 ≤ x8 then (if x8 < (x0.length : Int) then ((impl_areLists_1.f k (rd_L1 x0 x8) x610 x611).bind fun t302=>(if t302 = true then (some x8) else (slices_IndexFunc_int_int__impl_areLists_1.l0 k x0 x7 (wrap64 (x8 + 1)) x610 x611))) else (none)) else (none)) else (some (-1))
def slices_IndexFunc_int_int__impl_areLists_1.f (k : Nat) (l0 : List (List Int)) (l1_0 : List Int) (l1_1 : List Int) : Option (Int):=slices_IndexFunc_int_int__impl_areLists_1.l0 k l0 (l0.length : Int) 0 l1_0 l1_1
theorem slices_IndexFunc_int_int__impl_areLists_1.mono_l : ∀ k,(∀ y0 y1 y2 y3 y4,LeO (slices_IndexFunc_int_int__impl_areLists_1.l0 k y0 y1 y2 y3 y4) (slices_IndexFunc_int_int__impl_areLists_1.l0 (k + 1) y0 y1 y2 y3 y4))
 | 0=>fun _ _ _ _ _ r h=>by simp [slices_IndexFunc_int_int__impl_areLists_1.l0] at h
 | k + 1=>by
  have ih0:=slices_IndexFunc_int_int__impl_areLists_1.mono_l k
  ·intro y0 y1 y2 y3 y4
   unfold slices_IndexFunc_int_int__impl_areLists_1.l0
   have m0:=@impl_areLists_1.mono
   exact MO
theorem slices_IndexFunc_int_int__impl_areLists_1.mono : ∀ a0 a1 a2 k,LeO (slices_IndexFunc_int_int__impl_areLists_1.f k a0 a1 a2) (slices_IndexFunc_int_int__impl_areLists_1.f (k + 1) a0 a1 a2):=by
 intro a0 a1 a2 k;have ih0:=slices_IndexFunc_int_int__impl_areLists_1.mono_l k;unfold slices_IndexFunc_int_int__impl_areLists_1.f
 have m0:=@impl_areLists_1.mono
 exact MO
theorem slices_IndexFunc_int_int__impl_areLists_1.calls (k : Nat) (A0 : Option Addr) (c0 : Nat) (l0 : List (List Int)) (A1_0 : Option Addr) (c1_0 : Nat) (l1_0 : List Int) (A1_1 : Option Addr) (c1_1 : Nat) (l1_1 : List Int) (r : Int) (w : World) (hr0 : Kd.C (Kd.slice 3 (Kd.int .i64)) w A0 l0.length l0) (hc0 : l0.length ≤ c0) (hr1_0 : Kd.C (Kd.int .i64) w A1_0 l1_0.length l1_0) (hc1_0 : l1_0.length ≤ c1_0) (hr1_1 : Kd.C (Kd.int .i64) w A1_1 l1_1.length l1_1) (hc1_1 : l1_1.length ≤ c1_1) (h : slices_IndexFunc_int_int__impl_areLists_1.f k l0 l1_0 l1_1 = some r) :
  Calls Try.prog 75 #[.slice A0 l0.length c0,.func (.func 62) #[] #[.pointer A1_0,.pointer A1_1]] w fun e w'=>e = .returned (.int .i64 r)∧Drawn0 w w':=by
 have HR0:=AM hr0;have HC0:=AM hc0;clear hr0 hc0;have HR1_0:=AM hr1_0;have HC1_0:=AM hc1_0;clear hr1_0 hc1_0;have HR1_1:=AM hr1_1;have HC1_1:=AM hc1_1;clear hr1_1 hc1_1;have H : (slices_IndexFunc_int_int__impl_areLists_1.l0 k l0 (l0.length : Int) 0 l1_0 l1_1) = some r:=h;clear h;have H':=AM H;clear H;go_enter Try.func75,Try.ntmps75;go_wp2;go_loopg [8] k (fun kq v8 w'=>∃ (x8_1 : Int),v8 = .int .i64 x8_1∧Aside0 (slices_IndexFunc_int_int__impl_areLists_1.l0 kq l0 (l0.length : Int) x8_1 l1_0 l1_1 = some r)∧Aside0 (kq ≤ k)∧Drawn0 w w')
 case atStart=>exact ⟨(0),RF,H',⟨Nat.le_refl _⟩,by repeat (first|exact Drawn0.refl _|apply Drawn0.step)⟩
 case round =>
  clear H';try clear c1
  try clear p2
  obtain ⟨x8_1,rfl,HA,HK1,⟨m1,rfl⟩⟩:=hrel;cases gk with
  | zero=>exact absurd HA.out (by simp [slices_IndexFunc_int_int__impl_areLists_1.l0])
  | succ k1 =>
   have H:=HA.out;clear HA;simp only [slices_IndexFunc_int_int__impl_areLists_1.l0] at H;by_cases c3 : x8_1 < (l0.length : Int)
   ·rw [if_pos c3] at H;have c3b0:=DT c3;clear c3;replace H:=IC H;obtain ⟨c4,H⟩:=H;have c4b0:=DT c4;clear c4;replace H:=IC H;obtain ⟨c5,H⟩:=H;have c5b0:=DT c5;clear c5;replace H:=EA H;obtain ⟨t302,A6,H⟩:=H;by_cases c7 : t302 = true
    ·subst c7;replace H:=IP H;obtain rfl:=Option.some.inj H;have p301 : 0 ≤ (x8_1 : Int):=OD AS;have q301 : x8_1 < (l0.length : Int):=OD AS;obtain ⟨ad301,A301_0,c301_0,e301,hx301_0,hl301_0,hi301_0⟩:=at_L1 HR0.out x8_1 p301 q301;cases e301;have HR301_0:=AM hi301_0;have HC301_0:=AM hl301_0;clear hi301_0 hl301_0;replace p301:=ET p301;replace q301:=ET q301;go_wp2_with (first|(go_at_call 62;(with_reducible refine (impl_areLists_1.calls k1 _ _ (rd_L1 l0 x8_1) A1_0 c1_0 l1_0 A1_1 c1_1 l1_1 true _ (CW HR301_0.out) HC301_0.out (CW HR1_0.out) HC1_0.out (CW HR1_1.out) HC1_1.out A6.out).mono ?_);rintro e w' ⟨rfl,⟨nd,rfl⟩⟩));go_ret;exact ⟨RF,DR⟩
    ·replace c7:=NF c7;subst c7;replace H:=IN H;have H':=AM H;clear H;have p301 : 0 ≤ (x8_1 : Int):=OD AS;have q301 : x8_1 < (l0.length : Int):=OD AS;obtain ⟨ad301,A301_0,c301_0,e301,hx301_0,hl301_0,hi301_0⟩:=at_L1 HR0.out x8_1 p301 q301;cases e301;have HR301_0:=AM hi301_0;have HC301_0:=AM hl301_0;clear hi301_0 hl301_0;replace p301:=ET p301;replace q301:=ET q301;go_wp2_with (first|(go_at_call 62;(with_reducible refine (impl_areLists_1.calls k1 _ _ (rd_L1 l0 x8_1) A1_0 c1_0 l1_0 A1_1 c1_1 l1_1 false _ (CW HR301_0.out) HC301_0.out (CW HR1_0.out) HC1_0.out (CW HR1_1.out) HC1_1.out A6.out).mono ?_);rintro e w' ⟨rfl,⟨nd,rfl⟩⟩));go_roundg k1
     case measure=>have:=HK1.out;omega
     case rel=>exact ⟨(wrap64 (x8_1 + 1)),RF,H',⟨by have:=HK1.out;omega⟩,by repeat (first|exact Drawn0.refl _|apply Drawn0.step)⟩
   ·rw [if_neg c3] at H;have c3b0:=DF c3;clear c3;obtain rfl:=Option.some.inj H;go_wp2;go_ret;exact ⟨RF,DR⟩

/-! ### slices_ContainsFunc_int_int__impl_areLists_1: function 61 -/
def slices_ContainsFunc_int_int__impl_areLists_1.f (k : Nat) (l0 : List (List Int)) (l1_0 : List Int) (l1_1 : List Int) : Option (Bool):=(slices_IndexFunc_int_int__impl_areLists_1.f k l0 l1_0 l1_1).bind fun t303=>(some (decide (t303 ≥ 0)))
theorem slices_ContainsFunc_int_int__impl_areLists_1.mono : ∀ a0 a1 a2 k,LeO (slices_ContainsFunc_int_int__impl_areLists_1.f k a0 a1 a2) (slices_ContainsFunc_int_int__impl_areLists_1.f (k + 1) a0 a1 a2):=by
 intro a0 a1 a2 k;unfold slices_ContainsFunc_int_int__impl_areLists_1.f
 have m0:=@slices_IndexFunc_int_int__impl_areLists_1.mono
 exact MO
theorem slices_ContainsFunc_int_int__impl_areLists_1.calls (k : Nat) (A0 : Option Addr) (c0 : Nat) (l0 : List (List Int)) (A1_0 : Option Addr) (c1_0 : Nat) (l1_0 : List Int) (A1_1 : Option Addr) (c1_1 : Nat) (l1_1 : List Int) (r : Bool) (w : World) (hr0 : Kd.C (Kd.slice 3 (Kd.int .i64)) w A0 l0.length l0) (hc0 : l0.length ≤ c0) (hr1_0 : Kd.C (Kd.int .i64) w A1_0 l1_0.length l1_0) (hc1_0 : l1_0.length ≤ c1_0) (hr1_1 : Kd.C (Kd.int .i64) w A1_1 l1_1.length l1_1) (hc1_1 : l1_1.length ≤ c1_1) (h : slices_ContainsFunc_int_int__impl_areLists_1.f k l0 l1_0 l1_1 = some r) :
  Calls Try.prog 61 #[.slice A0 l0.length c0,.func (.func 62) #[] #[.pointer A1_0,.pointer A1_1]] w fun e w'=>e = .returned (.bool r)∧Drawn0 w w':=by
 have HR0:=AM hr0;have HC0:=AM hc0;clear hr0 hc0;have HR1_0:=AM hr1_0;have HC1_0:=AM hc1_0;clear hr1_0 hc1_0;have HR1_1:=AM hr1_1;have HC1_1:=AM hc1_1;clear hr1_1 hc1_1;have H : ((slices_IndexFunc_int_int__impl_areLists_1.f k l0 l1_0 l1_1).bind fun t303=>(some (decide (t303 ≥ 0)))) = some r:=h;clear h;replace H:=EA H;obtain ⟨t303,A3,H⟩:=H;obtain rfl:=Option.some.inj H;go_enter Try.func61,Try.ntmps61;go_wp2_with (first|(refine GC 75 ?_;refine GM (some 7) Try.func75 (slices_IndexFunc_int_int__impl_areLists_1.calls k _ _ l0 A1_0 c1_0 l1_0 A1_1 c1_1 l1_1 t303 _ (CW HR0.out) HC0.out (CW HR1_0.out) HC1_0.out (CW HR1_1.out) HC1_1.out A3.out) ?_;rintro e w' ⟨rfl,⟨nd,rfl⟩⟩;refine ⟨_,rfl,?_⟩));go_ret;exact ⟨RF,DR⟩

/-! ### impl_areLists: function 49 -/
def impl_areLists.f (k : Nat) (l0 : List (List Int)) (a1 : Int) (a2 : Int) : Option (Bool):=if (l0.length : Int) = 3 then ((slices_ContainsFunc_int_int__impl_areLists_1.f k l0 [a1] [a2]).bind fun t306=>(some (!t306))) else (some false)
theorem impl_areLists.mono : ∀ a0 a1 a2 k,LeO (impl_areLists.f k a0 a1 a2) (impl_areLists.f (k + 1) a0 a1 a2):=by
 intro a0 a1 a2 k;unfold impl_areLists.f
 have m0:=@slices_ContainsFunc_int_int__impl_areLists_1.mono
 exact MO
theorem impl_areLists.calls (k : Nat) (A0 : Option Addr) (c0 : Nat) (l0 : List (List Int)) (a1 : Int) (a2 : Int) (r : Bool) (w : World) (hr0 : Kd.C (Kd.slice 3 (Kd.int .i64)) w A0 l0.length l0) (hc0 : l0.length ≤ c0) (h : impl_areLists.f k l0 a1 a2 = some r) :
  Calls Try.prog 49 #[.slice A0 l0.length c0,.int .i64 a1,.int .i64 a2] w fun e w'=>e = .returned (.bool r)∧Below w.heap.size w w':=by
 have HR0:=AM hr0;have HC0:=AM hc0;clear hr0 hc0;have HB:=HRf w;have H : (if (l0.length : Int) = 3 then ((slices_ContainsFunc_int_int__impl_areLists_1.f k l0 [a1] [a2]).bind fun t306=>(some (!t306))) else (some false)) = some r:=h;clear h;by_cases c4 : (l0.length : Int) = 3
 ·rw [if_pos c4] at H;have c4b0:=QT c4;have c4b1:=bne_eq_false_iff_eq.mpr c4;clear c4;replace H:=EA H;obtain ⟨t306,A5,H⟩:=H;obtain rfl:=Option.some.inj H;go_enter Try.func49,Try.ntmps49;go_wp2_with (first|((with_reducible refine gate_dst (N:=4) rfl ?_);refine box_event ?hg (N:=4) ?hd (cs:=#[.int .i64 a1]) (t:=3) ?hr ?_;(case hd=>rfl);(case hg=>rfl);(case hr=>exact GS);intro gb304 hg w6 hbox hb;have BK304:=AM hbox;have GW304:=AM ((by rw [hg];exact (BZ BB) : w.heap.size ≤ gb304));have GE304:=AM ((by rw [hg];exact (BZ BB) : w.heap.size ≤ gb304));replace HB:=HS hb;clear hb hbox hg)|((with_reducible refine gate_dst (N:=5) rfl ?_);refine box_event ?hg (N:=5) ?hd (cs:=#[.int .i64 a2]) (t:=3) ?hr ?_;(case hd=>rfl);(case hg=>rfl);(case hr=>exact GS);intro gb305 hg w7 hbox hb;have BK305:=AM hbox;have GW305:=AM ((by rw [hg];exact (BZ (AGE GE304)) : w.heap.size ≤ gb305));have GE305:=AM ((by rw [hg];exact (BZ (AGE GE304)) : w.heap.size ≤ gb305));replace HB:=HG GE304 hb;have NB304_305:=AM ((by rw [hg];exact Nat.ne_of_lt (blk_lt (g:=gb304) (o:=.cells #[.int .i64 a1] 3 (0,0)) (BW BK304)) : gb304≠gb305));have NB305_304:=AM ((by rw [hg];exact Nat.ne_of_gt (blk_lt (g:=gb304) (o:=.cells #[.int .i64 a1] 3 (0,0)) (BW BK304)) : gb305≠gb304));replace BK304:=AM (blk_below (g:=gb304) (o:=.cells #[.int .i64 a1] 3 (0,0)) (BW BK304) hb);clear hb hbox hg)|(go_at_call 61;(with_reducible refine (slices_ContainsFunc_int_int__impl_areLists_1.calls k _ _ l0 (some ⟨gb304,0,none⟩) 1 [a1] (some ⟨gb305,0,none⟩) 1 [a2] t306 _ ?side1 ?side2 ?side3 ?side4 ?side5 ?side6 A5.out).mono ?_);(case side1=>exact CW (Kd.C_below HR0.out HB.out));(case side2=>exact HC0.out);(case side3=>exact Kd.C_box (Kd.int .i64) (g:=gb304) (t:=3) (cs:=#[.int .i64 a1]) (BW BK304) rfl);(case side4=>exact Nat.le_refl _);(case side5=>exact Kd.C_box (Kd.int .i64) (g:=gb305) (t:=3) (cs:=#[.int .i64 a2]) (BW BK305) rfl);(case side6=>exact Nat.le_refl _);rintro e w' ⟨rfl,⟨nd,rfl⟩⟩));go_ret;exact ⟨RE,by repeat (first|(with_reducible first|exact HB.out|apply below_alloc|apply pw_below_drewN|apply below_drew1|refine below_set ?_ GE304.out|refine below_set ?_ GE305.out)|exact HB.out)⟩
 ·rw [if_neg c4] at H;have c4b0:=beq_eq_false_iff_ne.mpr c4;have c4b1:=bne_iff_ne.mpr c4;obtain rfl:=Option.some.inj H;go_enter Try.func49,Try.ntmps49;go_wp2_with (first|((with_reducible refine gate_dst (N:=4) rfl ?_);refine box_event ?hg (N:=4) ?hd (cs:=#[.int .i64 a1]) (t:=3) ?hr ?_;(case hd=>rfl);(case hg=>rfl);(case hr=>exact GS);intro gb304 hg w8 hbox hb;have BK304:=AM hbox;have GW304:=AM ((by rw [hg];exact (BZ BB) : w.heap.size ≤ gb304));have GE304:=AM ((by rw [hg];exact (BZ BB) : w.heap.size ≤ gb304));replace HB:=HS hb;clear hb hbox hg)|((with_reducible refine gate_dst (N:=5) rfl ?_);refine box_event ?hg (N:=5) ?hd (cs:=#[.int .i64 a2]) (t:=3) ?hr ?_;(case hd=>rfl);(case hg=>rfl);(case hr=>exact GS);intro gb305 hg w9 hbox hb;have BK305:=AM hbox;have GW305:=AM ((by rw [hg];exact (BZ (AGE GE304)) : w.heap.size ≤ gb305));have GE305:=AM ((by rw [hg];exact (BZ (AGE GE304)) : w.heap.size ≤ gb305));replace HB:=HG GE304 hb;have NB304_305:=AM ((by rw [hg];exact Nat.ne_of_lt (blk_lt (g:=gb304) (o:=.cells #[.int .i64 a1] 3 (0,0)) (BW BK304)) : gb304≠gb305));have NB305_304:=AM ((by rw [hg];exact Nat.ne_of_gt (blk_lt (g:=gb304) (o:=.cells #[.int .i64 a1] 3 (0,0)) (BW BK304)) : gb305≠gb304));replace BK304:=AM (blk_below (g:=gb304) (o:=.cells #[.int .i64 a1] 3 (0,0)) (BW BK304) hb);clear hb hbox hg));go_ret;exact ⟨RE,by repeat (first|(with_reducible first|exact HB.out|apply below_alloc|apply pw_below_drewN|apply below_drew1|refine below_set ?_ GE304.out|refine below_set ?_ GE305.out)|exact HB.out)⟩

/-! ### impl_areTastes: function 35 -/
def impl_areTastes.f (k : Nat) (a0 : Int) (l1 : List (List Int)) : Option (Bool):=(impl_isSide.f a0).bind fun t307=>(if t307 = true then ((impl_areLists.f k l1 a0 9).bind fun t308=>(some t308)) else (some false))
theorem impl_areTastes.mono : ∀ a0 a1 k,LeO (impl_areTastes.f k a0 a1) (impl_areTastes.f (k + 1) a0 a1):=by
 intro a0 a1 k;unfold impl_areTastes.f
 have m0:=@impl_areLists.mono
 exact MO
theorem impl_areTastes.calls (k : Nat) (a0 : Int) (A1 : Option Addr) (c1 : Nat) (l1 : List (List Int)) (r : Bool) (w : World) (hr1 : Kd.C (Kd.slice 3 (Kd.int .i64)) w A1 l1.length l1) (hc1 : l1.length ≤ c1) (h : impl_areTastes.f k a0 l1 = some r) :
  Calls Try.prog 35 #[.int .i64 a0,.slice A1 l1.length c1] w fun e w'=>e = .returned (.bool r)∧Below w.heap.size w w':=by
 have HR1:=AM hr1;have HC1:=AM hc1;clear hr1 hc1;have HB:=HRf w;have H : ((impl_isSide.f a0).bind fun t307=>(if t307 = true then ((impl_areLists.f k l1 a0 9).bind fun t308=>(some t308)) else (some false))) = some r:=h;clear h;replace H:=EA H;obtain ⟨t307,A3,H⟩:=H;by_cases c4 : t307 = true
 ·subst c4;replace H:=IP H;replace H:=EA H;obtain ⟨t308,A5,H⟩:=H;obtain rfl:=Option.some.inj H;go_enter Try.func35,Try.ntmps35;go_wp2_with (first|(refine GC 48 ?_;refine GM (some 6) Try.func48 (impl_isSide.calls a0 true _ A3.out) ?_;rintro e w' ⟨rfl,⟨nd,rfl⟩⟩;refine ⟨_,rfl,?_⟩)|(go_at_call 49;(with_reducible refine (impl_areLists.calls k _ _ l1 a0 9 t308 _ (CW HR1.out) HC1.out A5.out).mono ?_);rintro e w6 ⟨rfl,hb⟩;replace HB:=HS hb;try clear hb));go_ret;exact ⟨RE,BB⟩
 ·replace c4:=NF c4;subst c4;replace H:=IN H;obtain rfl:=Option.some.inj H;go_enter Try.func35,Try.ntmps35;go_wp2_with (first|(refine GC 48 ?_;refine GM (some 6) Try.func48 (impl_isSide.calls a0 false _ A3.out) ?_;rintro e w' ⟨rfl,⟨nd,rfl⟩⟩;refine ⟨_,rfl,?_⟩));go_ret;exact ⟨RE,BB⟩

/-! ### impl_points: function 22 -/
mutual
def impl_points.l0 : Nat→Int→List (S42)→Int→Option ((List (S42)))
 | 0,_,_,_=>none
 | k + 1,x0,x3,x4=>if x4 ≥ 0 then (impl_points.l1 k x0 x3 x4 (wrap64 (x0 - x4))) else (some x3)
def impl_points.l1 : Nat→Int→List (S42)→Int→Int→Option ((List (S42)))
 | 0,_,_,_,_=>none
 | k + 1,x0,x3,x4,x5=>if x5 ≥ 0 then (if x3.length < 5864062014805 then (impl_points.l1 k x0 (x3 ++ [(⟨x4,x5,wrap64 ((wrap64 (x0 - x4)) - x5)⟩ : S42)]) x4 (wrap64 (x5 - 1))) else (none)) else (impl_points.l0 k x0 x3 (wrap64 (x4 - 1)))
end
def impl_points.f (k : Nat) (a0 : Int) : Option ((List (S42))):=impl_points.l0 k a0 (([] : List (S42))) a0
theorem impl_points.mono_l : ∀ k,(∀ y0 y1 y2,LeO (impl_points.l0 k y0 y1 y2) (impl_points.l0 (k + 1) y0 y1 y2))∧(∀ y0 y1 y2 y3,LeO (impl_points.l1 k y0 y1 y2 y3) (impl_points.l1 (k + 1) y0 y1 y2 y3))
 | 0=>⟨fun _ _ _=>LZ,fun _ _ _ _=>LZ⟩
 | k + 1=>by
  obtain ⟨ih0,ih1⟩:=impl_points.mono_l k
  refine ⟨?_,?_⟩ <;> intros
  all_goals (first|unfold impl_points.l0|unfold impl_points.l1)
  all_goals exact MO
theorem impl_points.mono : ∀ a0 k,LeO (impl_points.f k a0) (impl_points.f (k + 1) a0):=by
 intro a0 k;obtain ⟨ih0,ih1⟩:=impl_points.mono_l k;unfold impl_points.f
 exact MO
theorem impl_points.calls (k : Nat) (a0 : Int) (r : List (S42)) (w : World) (h : impl_points.f k a0 = some r) :
  Calls Try.prog 22 #[.int .i64 a0] w fun e w'=>∃ v0_ : Value,e = .returned (v0_)∧Kd.R k42 42 w' w.heap.size (fun _=>True) v0_ r∧Below w.heap.size w w':=by
 have hu42:=Try.underlying42;have HB:=HRf w;have H : (impl_points.l0 k a0 (([] : List (S42))) a0) = some r:=h;clear h;obtain ⟨y309,hy309⟩ : ∃ y_ : List (S42),y_ = (([] : List (S42))):=⟨_,rfl⟩;replace H : (impl_points.l0 k a0 y309 a0) = some r:=HY H hy309;have Ny309:=AM hy309;clear hy309;have H':=AM H;clear H;go_enter Try.func22,Try.ntmps22;go_wp2_with (first|((with_reducible refine gate_dst (N:=6) rfl ?_);refine Kd.R_lit k42 _ 42 ?hg (N:=6) ?hd (xs:=([] : List (S42))) (inner:=[]) (ok:=fun _=>True) (okp:=fun _=>True) ?hr ?hp (fun _ hk=>hk) trivial (Below.refl _ _) (Nat.le_refl _) (by simp) ?_;(case hd=>rfl);(case hg=>rfl);(case hr=>exact GS);(case hp=>exact (Reps.none _ _));intro v310 w2 ho3 hb hg_ hnew_;clear hg_ hnew_;(first|rw [← Ny309.out] at ho3|(simp only [Int.reduceToNat] at ho3;rw [← Ny309.out] at ho3));have HO311:=AM (Kd.R_lower ho3 (BZ BB));replace HB:=HS hb;clear hb ho3));go_loopg [3,4] k (fun kq v3 v4 w'=>∃ (x3_1 : List (S42)) (x4_1 : Int),v4 = .int .i64 x4_1∧Aside0 (impl_points.l0 kq a0 x3_1 x4_1 = some r)∧Aside0 (kq ≤ k)∧Aside0 (Kd.R k42 42 w' w.heap.size (fun _=>True) v3 x3_1)∧Aside0 (Below w.heap.size w w'))
 case atStart=>exact ⟨(y309),(a0),RF,H',⟨Nat.le_refl _⟩,⟨KR HO311⟩,⟨BB⟩⟩
 case round =>
  clear H';try clear c2
  try clear p2
  obtain ⟨x3_1,x4_1,rfl,HA,HK1,HO_3,HB⟩:=hrel;cases gk with
  | zero=>exact absurd HA.out (by simp [impl_points.l0])
  | succ k1 =>
   have H:=HA.out;clear HA;simp only [impl_points.l0] at H;by_cases c4 : x4_1 ≥ 0
   ·rw [if_pos c4] at H;have c4b0:=DT c4;clear c4;have H':=AM H;clear H;go_wp2;go_loopg [3,5] k1 (fun kq v3 v5 w'=>∃ (x3_2 : List (S42)) (x5_2 : Int),v5 = .int .i64 x5_2∧Aside0 (impl_points.l1 kq a0 x3_2 x4_1 x5_2 = some r)∧Aside0 (kq ≤ k1)∧Aside0 (Kd.R k42 42 w' w.heap.size (fun _=>True) v3 x3_2)∧Aside0 (Below w.heap.size w w'))
    case atStart=>exact ⟨(x3_1),(wrap64 (a0 - x4_1)),RF,H',⟨Nat.le_refl _⟩,⟨KR HO_3⟩,⟨BB⟩⟩
    case round =>
     clear H';try clear c2
     try clear p2
     try clear c4
     try clear c4b0
     try clear p2
     obtain ⟨x3_2,x5_2,rfl,HA,HK2,HO_3,HB⟩:=hrel;cases gk with
     | zero=>exact absurd HA.out (by simp [impl_points.l1])
     | succ k2 =>
      have H:=HA.out;clear HA;simp only [impl_points.l1] at H;by_cases c5 : x5_2 ≥ 0
      ·rw [if_pos c5] at H;have c5b0:=DT c5;clear c5;replace H:=IC H;obtain ⟨c6,H⟩:=H;have LMc6:=AM c6;clear c6;obtain ⟨y312,hy312⟩ : ∃ y_ : List (S42),y_ = (x3_2 ++ [(⟨x4_1,x5_2,wrap64 ((wrap64 (a0 - x4_1)) - x5_2)⟩ : S42)]):=⟨_,rfl⟩;replace H : (impl_points.l1 k2 a0 y312 x4_1 (wrap64 (x5_2 - 1))) = some r:=HY H hy312;have Ny312:=AM hy312;clear hy312;have H':=AM H;clear H;go_wp2_with (first|((with_reducible refine gate_builtin (b:=.append) (xs:=#[.tmp 19,.tmp 28]) rfl ?_);at_builtin;refine Kd.R_append k42 (w0:=w) w.heap.size rfl (.tmp 19) (.tmp 28) 39 42 (.agg #[(.int .i64 0),(.int .i64 0),(.int .i64 0)]) 24 rfl Try.underlying39 info42 rfl (by decide) (by omega) u3 x3_2 (⟨x4_1,x5_2,wrap64 ((wrap64 (a0 - x4_1)) - x5_2)⟩ : S42) [.int .i64 x4_1,.int .i64 x5_2,.int .i64 (wrap64 ((wrap64 (a0 - x4_1)) - x5_2))] (fun _=>True) (fun _=>False) rfl rfl ?aP (fun _ hk=>hk.elim) ?aF ?aO ?aB ?aS ?aL ?_;(case aP=>exact k42_mkM _ _ _ (⟨x4_1,x5_2,wrap64 ((wrap64 (a0 - x4_1)) - x5_2)⟩ : S42));(case aB=>exact BB);(case aF=>exact (fun _ _=>trivial));(case aO=>exact (KR HO_3));(case aS=>exact (BZ BB));(case aL=>have:=LMc6.out;omega);intro v313 w7 ho hb hg hat;rw [← Ny312.out] at ho;replace HB:=AM hb;have HO314:=AM ho;clear HO_3;clear ho hb hg hat));go_roundg k2
       case measure=>have:=HK1.out;have:=HK2.out;omega
       case rel=>exact ⟨(y312),(wrap64 (x5_2 - 1)),RF,H',⟨by have:=HK1.out;have:=HK2.out;omega⟩,⟨KR HO314⟩,⟨BB⟩⟩
      ·rw [if_neg c5] at H;have c5b0:=DF c5;clear c5;have H':=AM H;clear H;go_wp2;go_roundg k2
       case measure=>have:=HK1.out;have:=HK2.out;omega
       case rel=>exact ⟨(x3_2),(wrap64 (x4_1 - 1)),RF,H',⟨by have:=HK1.out;have:=HK2.out;omega⟩,⟨KR HO_3⟩,⟨BB⟩⟩
   ·rw [if_neg c4] at H;have c4b0:=DF c4;clear c4;obtain rfl:=Option.some.inj H;go_wp2;go_ret;exact ⟨_,RE,KR HO_3,BB⟩

/-! ### impl_near: function 38 -/
def impl_near.l0 : Nat→Int→Int→Int→Int→Int→Int→Int→Int→Int→Option (Bool)
 | 0,_,_,_,_,_,_,_,_,_=>none
 | k + 1,x5,x6,x9,x316000,x316001,x316002,x317000,x317001,x317002=>if x9 < 3 then (if 0 = x9 then (impl_near.l0 k (wrap64 (x5 + (mx (wrap64 (x316000 - x317000)) (wrap64 (x317000 - x316000))))) (mx x6 (mx (wrap64 (x316000 - x317000)) (wrap64 (x317000 - x316000)))) (wrap64 (x9 + 1)) x316000 x316001 x316002 x317000 x317001 x317002) else (if 1 = x9 then (impl_near.l0 k (wrap64 (x5 + (mx (wrap64 (x316001 - x317001)) (wrap64 (x317001 - x316001))))) (mx x6 (mx (wrap64 (x316001 - x317001)) (wrap64 (x317001 - x316001)))) (wrap64 (x9 + 1)) x316000 x316001 x316002 x317000 x317001 x317002) else (if 2 = x9 then (impl_near.l0 k (wrap64 (x5 + (mx (wrap64 (x316002 - x317002)) (wrap64 (x317002 - x316002))))) (mx x6 (mx (wrap64 (x316002 - x317002)) (wrap64 (x317002 - x316002)))) (wrap64 (x9 + 1)) x316000 x316001 x316002 x317000 x317001 x317002) else (none)))) else (if x5 = 2 then (some (x6 == 1)) else (some false))
def impl_near.f (k : Nat) (a0_0 : Int) (a0_1 : Int) (a0_2 : Int) (a1_0 : Int) (a1_1 : Int) (a1_2 : Int) : Option (Bool):=impl_near.l0 k 0 0 0 a0_0 a0_1 a0_2 a1_0 a1_1 a1_2
theorem impl_near.mono_l : ∀ k,(∀ y0 y1 y2 y3 y4 y5 y6 y7 y8,LeO (impl_near.l0 k y0 y1 y2 y3 y4 y5 y6 y7 y8) (impl_near.l0 (k + 1) y0 y1 y2 y3 y4 y5 y6 y7 y8))
 | 0=>fun _ _ _ _ _ _ _ _ _ r h=>by simp [impl_near.l0] at h
 | k + 1=>by
  have ih0:=impl_near.mono_l k
  ·intro y0 y1 y2 y3 y4 y5 y6 y7 y8
   unfold impl_near.l0
   exact MO
theorem impl_near.mono : ∀ a0 a1 a2 a3 a4 a5 k,LeO (impl_near.f k a0 a1 a2 a3 a4 a5) (impl_near.f (k + 1) a0 a1 a2 a3 a4 a5):=by
 intro a0 a1 a2 a3 a4 a5 k;have ih0:=impl_near.mono_l k;unfold impl_near.f
 exact MO
theorem impl_near.calls (k : Nat) (a0_0 : Int) (a0_1 : Int) (a0_2 : Int) (a1_0 : Int) (a1_1 : Int) (a1_2 : Int) (r : Bool) (w : World) (h : impl_near.f k a0_0 a0_1 a0_2 a1_0 a1_1 a1_2 = some r) :
  Calls Try.prog 38 #[.agg #[.int .i64 a0_0,.int .i64 a0_1,.int .i64 a0_2],.agg #[.int .i64 a1_0,.int .i64 a1_1,.int .i64 a1_2]] w fun e w'=>e = .returned (.bool r)∧Below w.heap.size w w':=by
 have hu42:=Try.underlying42;have HB:=HRf w;have H : (impl_near.l0 k 0 0 0 a0_0 a0_1 a0_2 a1_0 a1_1 a1_2) = some r:=h;clear h;have H':=AM H;clear H;go_enter Try.func38,Try.ntmps38;go_wp2_with (first|((with_reducible refine gate_dst (N:=2) rfl ?_);refine box_event ?hg (N:=2) ?hd (cs:=#[.int .i64 a0_0,.int .i64 a0_1,.int .i64 a0_2]) (t:=42) ?hr ?_;(case hd=>rfl);(case hg=>rfl);(case hr=>exact GS);intro gb315 hg w3 hbox hb;have BK315:=AM hbox;have GW315:=AM ((by rw [hg];exact (BZ BB) : w.heap.size ≤ gb315));have GE315:=AM ((by rw [hg];exact (BZ BB) : w.heap.size ≤ gb315));replace HB:=HS hb;clear hb hbox hg)|((with_reducible refine gate_dst (N:=3) rfl ?_);refine box_event ?hg (N:=3) ?hd (cs:=#[.int .i64 a1_0,.int .i64 a1_1,.int .i64 a1_2]) (t:=42) ?hr ?_;(case hd=>rfl);(case hg=>rfl);(case hr=>exact GS);intro gb316 hg w4 hbox hb;have BK316:=AM hbox;have GW316:=AM ((by rw [hg];exact (BZ (AGE GE315)) : w.heap.size ≤ gb316));have GE316:=AM ((by rw [hg];exact (BZ (AGE GE315)) : w.heap.size ≤ gb316));replace HB:=HG GE315 hb;have NB315_316:=AM ((by rw [hg];exact Nat.ne_of_lt (blk_lt (g:=gb315) (o:=.cells #[.int .i64 a0_0,.int .i64 a0_1,.int .i64 a0_2] 42 (0,0)) (BW BK315)) : gb315≠gb316));have NB316_315:=AM ((by rw [hg];exact Nat.ne_of_gt (blk_lt (g:=gb315) (o:=.cells #[.int .i64 a0_0,.int .i64 a0_1,.int .i64 a0_2] 42 (0,0)) (BW BK315)) : gb316≠gb315));replace BK315:=AM (blk_below (g:=gb315) (o:=.cells #[.int .i64 a0_0,.int .i64 a0_1,.int .i64 a0_2] 42 (0,0)) (BW BK315) hb);clear hb hbox hg));repeat (go_quiet (first|((with_reducible refine gate_dst (N:=2) rfl ?_);refine box_event ?hg (N:=2) ?hd (cs:=#[.int .i64 a0_0,.int .i64 a0_1,.int .i64 a0_2]) (t:=42) ?hr ?_;(case hd=>rfl);(case hg=>rfl);(case hr=>exact GS);intro gb315 hg w3 hbox hb;have BK315:=AM hbox;have GW315:=AM ((by rw [hg];exact (BZ BB) : w.heap.size ≤ gb315));have GE315:=AM ((by rw [hg];exact (BZ BB) : w.heap.size ≤ gb315));replace HB:=HS hb;clear hb hbox hg)|((with_reducible refine gate_dst (N:=3) rfl ?_);refine box_event ?hg (N:=3) ?hd (cs:=#[.int .i64 a1_0,.int .i64 a1_1,.int .i64 a1_2]) (t:=42) ?hr ?_;(case hd=>rfl);(case hg=>rfl);(case hr=>exact GS);intro gb316 hg w4 hbox hb;have BK316:=AM hbox;have GW316:=AM ((by rw [hg];exact (BZ (AGE GE315)) : w.heap.size ≤ gb316));have GE316:=AM ((by rw [hg];exact (BZ (AGE GE315)) : w.heap.size ≤ gb316));replace HB:=HG GE315 hb;have NB315_316:=AM ((by rw [hg];exact Nat.ne_of_lt (blk_lt (g:=gb315) (o:=.cells #[.int .i64 a0_0,.int .i64 a0_1,.int .i64 a0_2] 42 (0,0)) (BW BK315)) : gb315≠gb316));have NB316_315:=AM ((by rw [hg];exact Nat.ne_of_gt (blk_lt (g:=gb315) (o:=.cells #[.int .i64 a0_0,.int .i64 a0_1,.int .i64 a0_2] 42 (0,0)) (BW BK315)) : gb316≠gb315));replace BK315:=AM (blk_below (g:=gb315) (o:=.cells #[.int .i64 a0_0,.int .i64 a0_1,.int .i64 a0_2] 42 (0,0)) (BW BK315) hb);clear hb hbox hg));try go_wp2_with (first|((with_reducible refine gate_dst (N:=2) rfl ?_);refine box_event ?hg (N:=2) ?hd (cs:=#[.int .i64 a0_0,.int .i64 a0_1,.int .i64 a0_2]) (t:=42) ?hr ?_;(case hd=>rfl);(case hg=>rfl);(case hr=>exact GS);intro gb315 hg w3 hbox hb;have BK315:=AM hbox;have GW315:=AM ((by rw [hg];exact (BZ BB) : w.heap.size ≤ gb315));have GE315:=AM ((by rw [hg];exact (BZ BB) : w.heap.size ≤ gb315));replace HB:=HS hb;clear hb hbox hg)|((with_reducible refine gate_dst (N:=3) rfl ?_);refine box_event ?hg (N:=3) ?hd (cs:=#[.int .i64 a1_0,.int .i64 a1_1,.int .i64 a1_2]) (t:=42) ?hr ?_;(case hd=>rfl);(case hg=>rfl);(case hr=>exact GS);intro gb316 hg w4 hbox hb;have BK316:=AM hbox;have GW316:=AM ((by rw [hg];exact (BZ (AGE GE315)) : w.heap.size ≤ gb316));have GE316:=AM ((by rw [hg];exact (BZ (AGE GE315)) : w.heap.size ≤ gb316));replace HB:=HG GE315 hb;have NB315_316:=AM ((by rw [hg];exact Nat.ne_of_lt (blk_lt (g:=gb315) (o:=.cells #[.int .i64 a0_0,.int .i64 a0_1,.int .i64 a0_2] 42 (0,0)) (BW BK315)) : gb315≠gb316));have NB316_315:=AM ((by rw [hg];exact Nat.ne_of_gt (blk_lt (g:=gb315) (o:=.cells #[.int .i64 a0_0,.int .i64 a0_1,.int .i64 a0_2] 42 (0,0)) (BW BK315)) : gb316≠gb315));replace BK315:=AM (blk_below (g:=gb315) (o:=.cells #[.int .i64 a0_0,.int .i64 a0_1,.int .i64 a0_2] 42 (0,0)) (BW BK315) hb);clear hb hbox hg)))
 go_loopg [5,6,9] k (fun kq v5 v6 v9 w'=>∃ (x5_1 : Int) (x6_1 : Int) (x9_1 : Int),v5 = .int .i64 x5_1∧v6 = .int .i64 x6_1∧v9 = .int .i64 x9_1∧Aside0 (impl_near.l0 kq x5_1 x6_1 x9_1 a0_0 a0_1 a0_2 a1_0 a1_1 a1_2 = some r)∧Aside0 (kq ≤ k)∧Aside0 (w'.heap[gb315]? = some (.cells #[.int .i64 a0_0,.int .i64 a0_1,.int .i64 a0_2] 42 (0,0)))∧Aside0 (w'.heap[gb316]? = some (.cells #[.int .i64 a1_0,.int .i64 a1_1,.int .i64 a1_2] 42 (0,0)))∧Aside0 (Below w.heap.size w w'))
 case atStart=>exact ⟨(0),(0),(0),RF,RF,RF,H',⟨Nat.le_refl _⟩,⟨by (with_reducible repeat (first|refine blk_drewN ?_ _|refine blk_drew ?_|refine blk_alloc ?_ _));exact BK315.out⟩,⟨by (with_reducible repeat (first|refine blk_drewN ?_ _|refine blk_drew ?_|refine blk_alloc ?_ _));exact BK316.out⟩,⟨by repeat (first|(with_reducible first|exact HB.out|apply below_alloc|apply pw_below_drewN|apply below_drew1|refine below_set ?_ GE315.out|refine below_set ?_ GE316.out)|exact HB.out)⟩⟩
 case round =>
  clear H';try clear p2
  try clear c3
  obtain ⟨x5_1,x6_1,x9_1,rfl,rfl,rfl,HA,HK1,BK315,BK316,HB⟩:=hrel;cases gk with
  | zero=>exact absurd HA.out (by simp [impl_near.l0])
  | succ k1 =>
   have H:=HA.out;clear HA;simp only [impl_near.l0] at H;by_cases c5 : x9_1 < 3
   ·rw [if_pos c5] at H;have c5b0:=DT c5;clear c5;by_cases c6 : 0 = x9_1
    ·rw [if_pos c6] at H;have c6b0 : x9_1 = 0:=c6.symm;clear c6;obtain ⟨ji7,hji7⟩ : ∃ j_ : Int,(mx (wrap64 (a0_0 - a1_0)) (wrap64 (a1_0 - a0_0))) = j_:=⟨_,rfl⟩;replace H : (impl_near.l0 k1 (wrap64 (x5_1 + (ji7))) (mx x6_1 (ji7)) (wrap64 (x9_1 + 1)) a0_0 a0_1 a0_2 a1_0 a1_1 a1_2) = some r:=by first|(rw [hji7] at H;exact H)|(simp only [hji7] at H ⊢;exact H)
     have hji7_ : (if (wrap64 (a0_0 - a1_0)) < (wrap64 (a1_0 - a0_0)) then (wrap64 (a1_0 - a0_0)) else (wrap64 (a0_0 - a1_0))) = ji7:=hji7;obtain ⟨ji8,hji8⟩ : ∃ j_ : Int,(mx x6_1 (ji7)) = j_:=⟨_,rfl⟩;replace H : (impl_near.l0 k1 (wrap64 (x5_1 + (ji7))) ji8 (wrap64 (x9_1 + 1)) a0_0 a0_1 a0_2 a1_0 a1_1 a1_2) = some r:=by first|(rw [hji8] at H;exact H)|(simp only [hji8] at H ⊢;exact H)
     have hji8_ : (if x6_1 < (ji7) then (ji7) else x6_1) = ji8:=hji8;have H':=AM H;clear H;have hnb9:=NB315_316.out;have hnc9:=NB316_315.out;have hcz10_0 : wr.cell? ⟨gb315,0,none⟩ = some (.int .i64 a0_0):=(BC BK315.out 0).trans rfl;have hcz10_1 : wr.cell? ⟨gb315,1,none⟩ = some (.int .i64 a0_1):=(BC BK315.out 1).trans rfl;have hcz10_2 : wr.cell? ⟨gb315,2,none⟩ = some (.int .i64 a0_2):=(BC BK315.out 2).trans rfl;have hfz10_0:=BF BK315.out 0;have hfz10_1:=BF BK315.out 1;have hfz10_2:=BF BK315.out 2;have hcz11_0 : wr.cell? ⟨gb316,0,none⟩ = some (.int .i64 a1_0):=(BC BK316.out 0).trans rfl;have hcz11_1 : wr.cell? ⟨gb316,1,none⟩ = some (.int .i64 a1_1):=(BC BK316.out 1).trans rfl;have hcz11_2 : wr.cell? ⟨gb316,2,none⟩ = some (.int .i64 a1_2):=(BC BK316.out 2).trans rfl;have hfz11_0:=BF BK316.out 0;have hfz11_1:=BF BK316.out 1;have hfz11_2:=BF BK316.out 2;go_wp2;repeat (go_quiet (fail);try go_wp2)
     go_roundg k1
     case measure=>have:=HK1.out;omega
     case rel=>exact ⟨(wrap64 (x5_1 + (ji7))),(ji8),(wrap64 (x9_1 + 1)),(by first|rfl|(simp;done)|(simp only [← hji7] <;> (first|rfl|simp))|(simp [*];done)|(simp [*,wrap64];done)),(by first|rfl|(simp;done)|(simp only [← hji8] <;> (first|rfl|simp))|(simp [*];done)|(simp [*,wrap64];done)),RF,H',⟨by have:=HK1.out;omega⟩,⟨by (with_reducible repeat (first|refine blk_drewN ?_ _|refine blk_drew ?_|refine blk_alloc ?_ _));exact BK315.out⟩,⟨by (with_reducible repeat (first|refine blk_drewN ?_ _|refine blk_drew ?_|refine blk_alloc ?_ _));exact BK316.out⟩,⟨by repeat (first|(with_reducible first|exact HB.out|apply below_alloc|apply pw_below_drewN|apply below_drew1|refine below_set ?_ GE315.out|refine below_set ?_ GE316.out)|exact HB.out)⟩⟩
    ·rw [if_neg c6] at H;by_cases c12 : 1 = x9_1
     ·rw [if_pos c12] at H;have c12b0 : x9_1 = 1:=c12.symm;clear c12;obtain ⟨ji13,hji13⟩ : ∃ j_ : Int,(mx (wrap64 (a0_1 - a1_1)) (wrap64 (a1_1 - a0_1))) = j_:=⟨_,rfl⟩;replace H : (impl_near.l0 k1 (wrap64 (x5_1 + (ji13))) (mx x6_1 (ji13)) (wrap64 (x9_1 + 1)) a0_0 a0_1 a0_2 a1_0 a1_1 a1_2) = some r:=by first|(rw [hji13] at H;exact H)|(simp only [hji13] at H ⊢;exact H)
      have hji13_ : (if (wrap64 (a0_1 - a1_1)) < (wrap64 (a1_1 - a0_1)) then (wrap64 (a1_1 - a0_1)) else (wrap64 (a0_1 - a1_1))) = ji13:=hji13;obtain ⟨ji14,hji14⟩ : ∃ j_ : Int,(mx x6_1 (ji13)) = j_:=⟨_,rfl⟩;replace H : (impl_near.l0 k1 (wrap64 (x5_1 + (ji13))) ji14 (wrap64 (x9_1 + 1)) a0_0 a0_1 a0_2 a1_0 a1_1 a1_2) = some r:=by first|(rw [hji14] at H;exact H)|(simp only [hji14] at H ⊢;exact H)
      have hji14_ : (if x6_1 < (ji13) then (ji13) else x6_1) = ji14:=hji14;have H':=AM H;clear H;have hnb15:=NB315_316.out;have hnc15:=NB316_315.out;have hcz16_0 : wr.cell? ⟨gb315,0,none⟩ = some (.int .i64 a0_0):=(BC BK315.out 0).trans rfl;have hcz16_1 : wr.cell? ⟨gb315,1,none⟩ = some (.int .i64 a0_1):=(BC BK315.out 1).trans rfl;have hcz16_2 : wr.cell? ⟨gb315,2,none⟩ = some (.int .i64 a0_2):=(BC BK315.out 2).trans rfl;have hfz16_0:=BF BK315.out 0;have hfz16_1:=BF BK315.out 1;have hfz16_2:=BF BK315.out 2;have hcz17_0 : wr.cell? ⟨gb316,0,none⟩ = some (.int .i64 a1_0):=(BC BK316.out 0).trans rfl;have hcz17_1 : wr.cell? ⟨gb316,1,none⟩ = some (.int .i64 a1_1):=(BC BK316.out 1).trans rfl;have hcz17_2 : wr.cell? ⟨gb316,2,none⟩ = some (.int .i64 a1_2):=(BC BK316.out 2).trans rfl;have hfz17_0:=BF BK316.out 0;have hfz17_1:=BF BK316.out 1;have hfz17_2:=BF BK316.out 2;go_wp2;repeat (go_quiet (fail);try go_wp2)
      go_roundg k1
      case measure=>have:=HK1.out;omega
      case rel=>exact ⟨(wrap64 (x5_1 + (ji13))),(ji14),(wrap64 (x9_1 + 1)),(by first|rfl|(simp;done)|(simp only [← hji13] <;> (first|rfl|simp))|(simp [*];done)|(simp [*,wrap64];done)),(by first|rfl|(simp;done)|(simp only [← hji14] <;> (first|rfl|simp))|(simp [*];done)|(simp [*,wrap64];done)),RF,H',⟨by have:=HK1.out;omega⟩,⟨by (with_reducible repeat (first|refine blk_drewN ?_ _|refine blk_drew ?_|refine blk_alloc ?_ _));exact BK315.out⟩,⟨by (with_reducible repeat (first|refine blk_drewN ?_ _|refine blk_drew ?_|refine blk_alloc ?_ _));exact BK316.out⟩,⟨by repeat (first|(with_reducible first|exact HB.out|apply below_alloc|apply pw_below_drewN|apply below_drew1|refine below_set ?_ GE315.out|refine below_set ?_ GE316.out)|exact HB.out)⟩⟩
     ·rw [if_neg c12] at H;replace H:=IC H;obtain ⟨c18,H⟩:=H;have c18b0 : x9_1 = 2:=c18.symm;clear c18;obtain ⟨ji19,hji19⟩ : ∃ j_ : Int,(mx (wrap64 (a0_2 - a1_2)) (wrap64 (a1_2 - a0_2))) = j_:=⟨_,rfl⟩;replace H : (impl_near.l0 k1 (wrap64 (x5_1 + (ji19))) (mx x6_1 (ji19)) (wrap64 (x9_1 + 1)) a0_0 a0_1 a0_2 a1_0 a1_1 a1_2) = some r:=by first|(rw [hji19] at H;exact H)|(simp only [hji19] at H ⊢;exact H)
      have hji19_ : (if (wrap64 (a0_2 - a1_2)) < (wrap64 (a1_2 - a0_2)) then (wrap64 (a1_2 - a0_2)) else (wrap64 (a0_2 - a1_2))) = ji19:=hji19;obtain ⟨ji20,hji20⟩ : ∃ j_ : Int,(mx x6_1 (ji19)) = j_:=⟨_,rfl⟩;replace H : (impl_near.l0 k1 (wrap64 (x5_1 + (ji19))) ji20 (wrap64 (x9_1 + 1)) a0_0 a0_1 a0_2 a1_0 a1_1 a1_2) = some r:=by first|(rw [hji20] at H;exact H)|(simp only [hji20] at H ⊢;exact H)
      have hji20_ : (if x6_1 < (ji19) then (ji19) else x6_1) = ji20:=hji20;have H':=AM H;clear H;have hnb21:=NB315_316.out;have hnc21:=NB316_315.out;have hcz22_0 : wr.cell? ⟨gb315,0,none⟩ = some (.int .i64 a0_0):=(BC BK315.out 0).trans rfl;have hcz22_1 : wr.cell? ⟨gb315,1,none⟩ = some (.int .i64 a0_1):=(BC BK315.out 1).trans rfl;have hcz22_2 : wr.cell? ⟨gb315,2,none⟩ = some (.int .i64 a0_2):=(BC BK315.out 2).trans rfl;have hfz22_0:=BF BK315.out 0;have hfz22_1:=BF BK315.out 1;have hfz22_2:=BF BK315.out 2;have hcz23_0 : wr.cell? ⟨gb316,0,none⟩ = some (.int .i64 a1_0):=(BC BK316.out 0).trans rfl;have hcz23_1 : wr.cell? ⟨gb316,1,none⟩ = some (.int .i64 a1_1):=(BC BK316.out 1).trans rfl;have hcz23_2 : wr.cell? ⟨gb316,2,none⟩ = some (.int .i64 a1_2):=(BC BK316.out 2).trans rfl;have hfz23_0:=BF BK316.out 0;have hfz23_1:=BF BK316.out 1;have hfz23_2:=BF BK316.out 2;go_wp2;repeat (go_quiet (fail);try go_wp2)
      go_roundg k1
      case measure=>have:=HK1.out;omega
      case rel=>exact ⟨(wrap64 (x5_1 + (ji19))),(ji20),(wrap64 (x9_1 + 1)),(by first|rfl|(simp;done)|(simp only [← hji19] <;> (first|rfl|simp))|(simp [*];done)|(simp [*,wrap64];done)),(by first|rfl|(simp;done)|(simp only [← hji20] <;> (first|rfl|simp))|(simp [*];done)|(simp [*,wrap64];done)),RF,H',⟨by have:=HK1.out;omega⟩,⟨by (with_reducible repeat (first|refine blk_drewN ?_ _|refine blk_drew ?_|refine blk_alloc ?_ _));exact BK315.out⟩,⟨by (with_reducible repeat (first|refine blk_drewN ?_ _|refine blk_drew ?_|refine blk_alloc ?_ _));exact BK316.out⟩,⟨by repeat (first|(with_reducible first|exact HB.out|apply below_alloc|apply pw_below_drewN|apply below_drew1|refine below_set ?_ GE315.out|refine below_set ?_ GE316.out)|exact HB.out)⟩⟩
   ·rw [if_neg c5] at H;have c5b0:=DF c5;clear c5;by_cases c24 : x5_1 = 2
    ·rw [if_pos c24] at H;have c24b0:=QT c24;have c24b1:=bne_eq_false_iff_eq.mpr c24;clear c24;obtain rfl:=Option.some.inj H;go_wp2;repeat (go_quiet (fail);try go_wp2)
     go_ret;exact ⟨RE,by repeat (first|(with_reducible first|exact HB.out|apply below_alloc|apply pw_below_drewN|apply below_drew1|refine below_set ?_ GE315.out|refine below_set ?_ GE316.out)|exact HB.out)⟩
    ·rw [if_neg c24] at H;have c24b0:=beq_eq_false_iff_ne.mpr c24;have c24b1:=bne_iff_ne.mpr c24;obtain rfl:=Option.some.inj H;go_wp2;repeat (go_quiet (fail);try go_wp2)
     go_ret;exact ⟨RE,by repeat (first|(with_reducible first|exact HB.out|apply below_alloc|apply pw_below_drewN|apply below_drew1|refine below_set ?_ GE315.out|refine below_set ?_ GE316.out)|exact HB.out)⟩

end Go.Proofs.Ytcecimigkndakab.PFnExactFairCut
