-- Written by a program of this session (wip/tools/pp.sh) out of the translation; Lean checks it.
import Derived.Test.YtlolkkfpfjlhmaaPFnOppositeEdgesFoundx2
namespace Go.Proofs.Ytlolkkfpfjlhmaa.PFnOppositeEdgesFound
open Go.RowKit Go.Proofs.YtlolkkfpfjlhmaaOwn Go.Proofs.YtlolkkfpfjlhmaaW.PrintWords Go.Proofs.YtlolkkfpfjlhmaaW.PrintLast Go.Proofs.YtlolkkfpfjlhmaaW.PrintMore
attribute [local go_sem] max2_int min2_int max_two min_two max_three min_three max_four min_four   -- for this text's walks alone
set_option linter.unusedVariables false
set_option maxHeartbeats 8000000
set_option maxRecDepth 100000
set_option linter.unusedSimpArgs false

/-! ### spec_DrawAreOpposite: function 20 -/
def spec_DrawAreOpposite.f (k : Nat) (l0 : List Int) : Option (Int × List Int):=(spec_l1Cur_opposite.f k l0 0 0).bind fun bt199=>(some (bt199.1,bt199.2.1))
theorem spec_DrawAreOpposite.mono : ∀ a0 k,LeO (spec_DrawAreOpposite.f k a0) (spec_DrawAreOpposite.f (k + 1) a0):=by
 intro a0 k;unfold spec_DrawAreOpposite.f
 have m0:=@spec_l1Cur_opposite.mono
 exact MO
theorem spec_DrawAreOpposite.calls (k : Nat) (A0 : Option Addr) (c0 : Nat) (l0 : List Int) (r1 : Int) (r2 : List Int) (w : World) (hr0 : Kd.C (Kd.int .u8) w A0 l0.length l0) (hc0 : l0.length ≤ c0) (h : spec_DrawAreOpposite.f k l0 = some (r1,r2)) :
  Calls Try.prog 20 #[.slice A0 l0.length c0] w fun e w'=>∃ v1_ : Value,e = .returned (.tuple #[.int .i64 r1,v1_])∧Kd.R (Kd.int .i64) 3 w' w.heap.size (fun _=>True) v1_ r2∧Below w.heap.size w w':=by
 have hu59:=Try.underlying59;have HR0:=AM hr0;have HC0:=AM hc0;clear hr0 hc0;have HB:=HRf w;have H : ((spec_l1Cur_opposite.f k l0 0 0).bind fun bt199=>(some (bt199.1,bt199.2.1))) = some (r1,r2):=h;clear h;replace H:=EA H;obtain ⟨⟨t199,t200,t203,t204⟩,A2,H⟩:=H;try dsimp only at H
 simp only [Option.some.injEq,Prod.mk.injEq] at H;obtain ⟨rfl,rfl⟩:=H;go_enter Try.func20,Try.ntmps20;go_wp2_with (first|((with_reducible refine gate_dst (N:=7) rfl ?_);refine box_event ?hg (N:=7) ?hd (cs:=#[.slice A0 l0.length c0,.int .i64 0,.int .u64 0]) (t:=59) ?hr ?_;(case hd=>rfl);(case hg=>rfl);(case hr=>exact GS);intro gb198 hg w3 hbox hb;have GW198:=AM ((by rw [hg];exact (BZ BB) : w.heap.size ≤ gb198));have GE198:=AM ((by rw [hg];exact (BZ BB) : w.heap.size ≤ gb198));have HI198:=AM ((show IsS59 w w3 gb198 l0 0 0 from ⟨A0,c0,hbox,(by rw [hg];exact (BZ BB) : w.heap.size ≤ gb198),HR0.out⟩));replace HB:=HS hb;clear hb hbox hg)|(refine GC 39 ?_;refine GM (some 9) Try.func39 (spec_l1Cur_opposite.calls k gb198 l0 0 0 t199 t200 t203 t204 w _ ?side1 ?side2 A2.out) ?_;(case side1=>repeat (first|(with_reducible first|exact HI198.out|apply IsS59.alloc|apply IsS59.drewN|apply IsS59.drew|apply IsS59.set_1|apply IsS59.set_2)|exact HI198.out));(case side2=>repeat (first|(with_reducible first|exact HB.out|apply below_alloc|apply pw_below_drewN|apply below_drew1|refine below_set ?_ (IsS59.ge HI198.out))|exact HB.out));rintro e w4 ⟨v201,rfl,ho0,hi,hb,hk⟩;refine ⟨_,rfl,?_⟩;have HO202:=AM (Kd.R_lower ho0 (BZ (by repeat (first|(with_reducible first|exact HB.out|apply below_alloc|apply pw_below_drewN|apply below_drew1|refine below_set ?_ (IsS59.ge HI198.out))|exact HB.out))));replace HB:=AM hb;replace HI198:=AM hi;try clear hb hk hi ho0));go_ret2;exact ⟨_,RE,KR HO202,by repeat (first|(with_reducible first|exact HB.out|apply below_alloc|apply pw_below_drewN|apply below_drew1|refine below_set ?_ (IsS59.ge HI198.out))|exact HB.out)⟩

/-! ### spec_DrawFindOpposite: function 5 -/
def spec_DrawFindOpposite.f (k : Nat) (l0 : List Int) : Option (Int × List Int):=(spec_DrawAreOpposite.f k l0).bind fun bt205=>(some (bt205.1,bt205.2))
theorem spec_DrawFindOpposite.mono : ∀ a0 k,LeO (spec_DrawFindOpposite.f k a0) (spec_DrawFindOpposite.f (k + 1) a0):=by
 intro a0 k;unfold spec_DrawFindOpposite.f
 have m0:=@spec_DrawAreOpposite.mono
 exact MO
theorem spec_DrawFindOpposite.calls (k : Nat) (A0 : Option Addr) (c0 : Nat) (l0 : List Int) (r1 : Int) (r2 : List Int) (w : World) (hr0 : Kd.C (Kd.int .u8) w A0 l0.length l0) (hc0 : l0.length ≤ c0) (h : spec_DrawFindOpposite.f k l0 = some (r1,r2)) :
  Calls Try.prog 5 #[.slice A0 l0.length c0] w fun e w'=>∃ v1_ : Value,e = .returned (.tuple #[.int .i64 r1,v1_])∧Kd.R (Kd.int .i64) 3 w' w.heap.size (fun _=>True) v1_ r2∧Below w.heap.size w w':=by
 have HR0:=AM hr0;have HC0:=AM hc0;clear hr0 hc0;have HB:=HRf w;have H : ((spec_DrawAreOpposite.f k l0).bind fun bt205=>(some (bt205.1,bt205.2))) = some (r1,r2):=h;clear h;replace H:=EA H;obtain ⟨⟨t205,t206⟩,A2,H⟩:=H;try dsimp only at H
 simp only [Option.some.injEq,Prod.mk.injEq] at H;obtain ⟨rfl,rfl⟩:=H;go_enter Try.func5,Try.ntmps5;go_wp2_with (first|(refine GC 20 ?_;refine GM (some 5) Try.func20 (spec_DrawAreOpposite.calls k _ _ l0 t205 t206 _ (CW HR0.out) HC0.out A2.out) ?_;rintro e w3 ⟨v207,rfl,ho0,hb⟩;refine ⟨_,rfl,?_⟩;have HO208:=AM (Kd.R_lower ho0 (BZ BB));replace HB:=HS hb;try clear hb ho0));go_ret2;exact ⟨_,RE,KR HO208,BB⟩

/-! ### impl_in: function 65 -/
def impl_in.f (a0 : Int) (a1 : Int) (a2 : Int) : Option (Bool):=if a1 ≤ a0 then (some (decide (a0 ≤ a2))) else (some false)
theorem impl_in.calls (a0 : Int) (a1 : Int) (a2 : Int) (r : Bool) (w : World) (h : impl_in.f a0 a1 a2 = some r) :
  Calls Try.prog 65 #[.int .i64 a0,.int .i64 a1,.int .i64 a2] w fun e w'=>e = .returned (.bool r)∧Drawn0 w w':=by
 have H : (if a1 ≤ a0 then (some (decide (a0 ≤ a2))) else (some false)) = some r:=h;clear h;by_cases c4 : a1 ≤ a0
 ·rw [if_pos c4] at H;have c4b0:=DT c4;clear c4;obtain rfl:=Option.some.inj H;go_enter Try.func65,Try.ntmps65;go_wp2;go_ret;exact ⟨RF,DR⟩
 ·rw [if_neg c4] at H;have c4b0:=DF c4;clear c4;obtain rfl:=Option.some.inj H;go_enter Try.func65,Try.ntmps65;go_wp2;go_ret;exact ⟨RF,DR⟩

/-! ### impl_isReach: function 34 -/
def impl_isReach.f (a0 : Int) : Option (Bool):=(impl_in.f a0 1 4).bind fun t209=>(some t209)
theorem impl_isReach.calls (a0 : Int) (r : Bool) (w : World) (h : impl_isReach.f a0 = some r) :
  Calls Try.prog 34 #[.int .i64 a0] w fun e w'=>e = .returned (.bool r)∧Drawn0 w w':=by
 have H : ((impl_in.f a0 1 4).bind fun t209=>(some t209)) = some r:=h;clear h;replace H:=EA H;obtain ⟨t209,A2,H⟩:=H;obtain rfl:=Option.some.inj H;go_enter Try.func34,Try.ntmps34;go_wp2_with (first|(refine GC 65 ?_;refine GM (some 4) Try.func65 (impl_in.calls a0 1 4 t209 _ A2.out) ?_;rintro e w' ⟨rfl,⟨nd,rfl⟩⟩;refine ⟨_,rfl,?_⟩));go_ret;exact ⟨RF,DR⟩

-- NOT PRINTED: function 73 (slices_IndexFunc_int_int_73)

-- NOT PRINTED: function 46 (slices_ContainsFunc_int_int_46)

/-! ### impl_areSigns_1: function 66 -/
def impl_areSigns_1.f (a0 : Int) : Option (Bool):=(impl_in.f a0 (-2) 2).bind fun t210=>(if t210 = true then (some (a0 == 0)) else (some true))
theorem impl_areSigns_1.calls (a0 : Int) (r : Bool) (w : World) (h : impl_areSigns_1.f a0 = some r) :
  Calls Try.prog 66 #[.int .i64 a0] w fun e w'=>e = .returned (.bool r)∧Drawn0 w w':=by
 have H : ((impl_in.f a0 (-2) 2).bind fun t210=>(if t210 = true then (some (a0 == 0)) else (some true))) = some r:=h;clear h;replace H:=EA H;obtain ⟨t210,A2,H⟩:=H;by_cases c3 : t210 = true
 ·subst c3;replace H:=IP H;obtain rfl:=Option.some.inj H;go_enter Try.func66,Try.ntmps66;go_wp2_with (first|(refine GC 65 ?_;refine GM (some 4) Try.func65 (impl_in.calls a0 (-2) 2 true _ A2.out) ?_;rintro e w' ⟨rfl,⟨nd,rfl⟩⟩;refine ⟨_,rfl,?_⟩));go_ret;exact ⟨RF,DR⟩
 ·replace c3:=NF c3;subst c3;replace H:=IN H;obtain rfl:=Option.some.inj H;go_enter Try.func66,Try.ntmps66;go_wp2_with (first|(refine GC 65 ?_;refine GM (some 4) Try.func65 (impl_in.calls a0 (-2) 2 false _ A2.out) ?_;rintro e w' ⟨rfl,⟨nd,rfl⟩⟩;refine ⟨_,rfl,?_⟩));go_ret;exact ⟨RF,DR⟩

/-! ### slices_IndexFunc_int_int__impl_areSigns_1: function 73 -/
def slices_IndexFunc_int_int__impl_areSigns_1.l0 : Nat→List Int→Int→Int→Option (Int)
 | 0,_,_,_=>none
 | k + 1,x0,x7,x8=>if x8 < x7 then (if 0 ≤ x8 then (if x8 < (x0.length : Int) then ((impl_areSigns_1.f (rd x0 x8)).bind fun t211=>(if t211 = true then (some x8) else (slices_IndexFunc_int_int__impl_areSigns_1.l0 k x0 x7 (wrap64 (x8 + 1))))) else (none)) else (none)) else (some (-1))
def slices_IndexFunc_int_int__impl_areSigns_1.f (k : Nat) (l0 : List Int)  : Option (Int):=slices_IndexFunc_int_int__impl_areSigns_1.l0 k l0 (l0.length : Int) 0
theorem slices_IndexFunc_int_int__impl_areSigns_1.mono_l : ∀ k,(∀ y0 y1 y2,LeO (slices_IndexFunc_int_int__impl_areSigns_1.l0 k y0 y1 y2) (slices_IndexFunc_int_int__impl_areSigns_1.l0 (k + 1) y0 y1 y2))
 | 0=>fun _ _ _ r h=>by simp [slices_IndexFunc_int_int__impl_areSigns_1.l0] at h
 | k + 1=>by
  have ih0:=slices_IndexFunc_int_int__impl_areSigns_1.mono_l k
  ·intro y0 y1 y2
   unfold slices_IndexFunc_int_int__impl_areSigns_1.l0
   exact MO
theorem slices_IndexFunc_int_int__impl_areSigns_1.mono : ∀ a0 k,LeO (slices_IndexFunc_int_int__impl_areSigns_1.f k a0) (slices_IndexFunc_int_int__impl_areSigns_1.f (k + 1) a0):=by
 intro a0 k;have ih0:=slices_IndexFunc_int_int__impl_areSigns_1.mono_l k;unfold slices_IndexFunc_int_int__impl_areSigns_1.f
 exact MO
theorem slices_IndexFunc_int_int__impl_areSigns_1.calls (k : Nat) (A0 : Option Addr) (c0 : Nat) (l0 : List Int)  (r : Int) (w : World) (hr0 : Kd.C (Kd.int .i64) w A0 l0.length l0) (hc0 : l0.length ≤ c0) (h : slices_IndexFunc_int_int__impl_areSigns_1.f k l0 = some r) :
  Calls Try.prog 73 #[.slice A0 l0.length c0,.func (.func 66) #[] #[]] w fun e w'=>e = .returned (.int .i64 r)∧Drawn0 w w':=by
 have HR0:=AM hr0;have HC0:=AM hc0;clear hr0 hc0;have H : (slices_IndexFunc_int_int__impl_areSigns_1.l0 k l0 (l0.length : Int) 0) = some r:=h;clear h;have H':=AM H;clear H;go_enter Try.func73,Try.ntmps73;go_wp2;go_loopg [8] k (fun kq v8 w'=>∃ (x8_1 : Int),v8 = .int .i64 x8_1∧Aside0 (slices_IndexFunc_int_int__impl_areSigns_1.l0 kq l0 (l0.length : Int) x8_1 = some r)∧Aside0 (kq ≤ k)∧Drawn0 w w')
 case atStart=>exact ⟨(0),RF,H',⟨Nat.le_refl _⟩,by repeat (first|exact Drawn0.refl _|apply Drawn0.step)⟩
 case round =>
  clear H';try clear p2
  obtain ⟨x8_1,rfl,HA,HK1,⟨m1,rfl⟩⟩:=hrel;cases gk with
  | zero=>exact absurd HA.out (by simp [slices_IndexFunc_int_int__impl_areSigns_1.l0])
  | succ k1 =>
   have H:=HA.out;clear HA;simp only [slices_IndexFunc_int_int__impl_areSigns_1.l0] at H;by_cases c3 : x8_1 < (l0.length : Int)
   ·rw [if_pos c3] at H;have c3b0:=DT c3;clear c3;replace H:=IC H;obtain ⟨c4,H⟩:=H;have c4b0:=DT c4;clear c4;replace H:=IC H;obtain ⟨c5,H⟩:=H;have c5b0:=DT c5;clear c5;replace H:=EA H;obtain ⟨t211,A6,H⟩:=H;by_cases c7 : t211 = true
    ·subst c7;replace H:=IP H;obtain rfl:=Option.some.inj H;have p210 : 0 ≤ (x8_1 : Int):=OD AS;have q210 : x8_1 < (l0.length : Int):=OD AS;obtain ⟨ad210,e210,hx210_0⟩:=Kd.at_int HR0.out x8_1 p210 q210;cases e210;replace p210:=ET p210;replace q210:=ET q210;go_wp2_with (first|(go_at_call 66;(with_reducible refine (impl_areSigns_1.calls (rd l0 x8_1) true _ A6.out).mono ?_);rintro e w' ⟨rfl,⟨nd,rfl⟩⟩));go_ret;exact ⟨RF,DR⟩
    ·replace c7:=NF c7;subst c7;replace H:=IN H;have H':=AM H;clear H;have p210 : 0 ≤ (x8_1 : Int):=OD AS;have q210 : x8_1 < (l0.length : Int):=OD AS;obtain ⟨ad210,e210,hx210_0⟩:=Kd.at_int HR0.out x8_1 p210 q210;cases e210;replace p210:=ET p210;replace q210:=ET q210;go_wp2_with (first|(go_at_call 66;(with_reducible refine (impl_areSigns_1.calls (rd l0 x8_1) false _ A6.out).mono ?_);rintro e w' ⟨rfl,⟨nd,rfl⟩⟩));go_roundg k1
     case measure=>have:=HK1.out;omega
     case rel=>exact ⟨(wrap64 (x8_1 + 1)),RF,H',⟨by have:=HK1.out;omega⟩,by repeat (first|exact Drawn0.refl _|apply Drawn0.step)⟩
   ·rw [if_neg c3] at H;have c3b0:=DF c3;clear c3;obtain rfl:=Option.some.inj H;go_wp2;go_ret;exact ⟨RF,DR⟩

/-! ### slices_ContainsFunc_int_int__impl_areSigns_1: function 46 -/
def slices_ContainsFunc_int_int__impl_areSigns_1.f (k : Nat) (l0 : List Int)  : Option (Bool):=(slices_IndexFunc_int_int__impl_areSigns_1.f k l0).bind fun t212=>(some (decide (t212 ≥ 0)))
theorem slices_ContainsFunc_int_int__impl_areSigns_1.mono : ∀ a0 k,LeO (slices_ContainsFunc_int_int__impl_areSigns_1.f k a0) (slices_ContainsFunc_int_int__impl_areSigns_1.f (k + 1) a0):=by
 intro a0 k;unfold slices_ContainsFunc_int_int__impl_areSigns_1.f
 have m0:=@slices_IndexFunc_int_int__impl_areSigns_1.mono
 exact MO
theorem slices_ContainsFunc_int_int__impl_areSigns_1.calls (k : Nat) (A0 : Option Addr) (c0 : Nat) (l0 : List Int)  (r : Bool) (w : World) (hr0 : Kd.C (Kd.int .i64) w A0 l0.length l0) (hc0 : l0.length ≤ c0) (h : slices_ContainsFunc_int_int__impl_areSigns_1.f k l0 = some r) :
  Calls Try.prog 46 #[.slice A0 l0.length c0,.func (.func 66) #[] #[]] w fun e w'=>e = .returned (.bool r)∧Drawn0 w w':=by
 have HR0:=AM hr0;have HC0:=AM hc0;clear hr0 hc0;have H : ((slices_IndexFunc_int_int__impl_areSigns_1.f k l0).bind fun t212=>(some (decide (t212 ≥ 0)))) = some r:=h;clear h;replace H:=EA H;obtain ⟨t212,A3,H⟩:=H;obtain rfl:=Option.some.inj H;go_enter Try.func46,Try.ntmps46;go_wp2_with (first|(refine GC 73 ?_;refine GM (some 7) Try.func73 (slices_IndexFunc_int_int__impl_areSigns_1.calls k _ _ l0  t212 _ (CW HR0.out) HC0.out A3.out) ?_;rintro e w' ⟨rfl,⟨nd,rfl⟩⟩;refine ⟨_,rfl,?_⟩));go_ret;exact ⟨RF,DR⟩

/-! ### impl_areSigns: function 35 -/
def impl_areSigns.f (k : Nat) (a0 : Int) (l1 : List Int) : Option (Bool):=(impl_isReach.f a0).bind fun t213=>(if t213 = true then (if (l1.length : Int) = (wrap64 ((wrap64 ((wrap64 (2 * a0)) + 1)) * (wrap64 ((wrap64 (2 * a0)) + 1)))) then ((slices_ContainsFunc_int_int__impl_areSigns_1.f k l1).bind fun t214=>(some (!t214))) else (some false)) else (some false))
theorem impl_areSigns.mono : ∀ a0 a1 k,LeO (impl_areSigns.f k a0 a1) (impl_areSigns.f (k + 1) a0 a1):=by
 intro a0 a1 k;unfold impl_areSigns.f
 have m0:=@slices_ContainsFunc_int_int__impl_areSigns_1.mono
 exact MO
theorem impl_areSigns.calls (k : Nat) (a0 : Int) (A1 : Option Addr) (c1 : Nat) (l1 : List Int) (r : Bool) (w : World) (hr1 : Kd.C (Kd.int .i64) w A1 l1.length l1) (hc1 : l1.length ≤ c1) (h : impl_areSigns.f k a0 l1 = some r) :
  Calls Try.prog 35 #[.int .i64 a0,.slice A1 l1.length c1] w fun e w'=>e = .returned (.bool r)∧Drawn0 w w':=by
 have HR1:=AM hr1;have HC1:=AM hc1;clear hr1 hc1;have H : ((impl_isReach.f a0).bind fun t213=>(if t213 = true then (if (l1.length : Int) = (wrap64 ((wrap64 ((wrap64 (2 * a0)) + 1)) * (wrap64 ((wrap64 (2 * a0)) + 1)))) then ((slices_ContainsFunc_int_int__impl_areSigns_1.f k l1).bind fun t214=>(some (!t214))) else (some false)) else (some false))) = some r:=h;clear h;replace H:=EA H;obtain ⟨t213,A3,H⟩:=H;by_cases c4 : t213 = true
 ·subst c4;replace H:=IP H;by_cases c5 : (l1.length : Int) = (wrap64 ((wrap64 ((wrap64 (2 * a0)) + 1)) * (wrap64 ((wrap64 (2 * a0)) + 1))))
  ·rw [if_pos c5] at H;have c5b0:=QT c5;have c5b1:=bne_eq_false_iff_eq.mpr c5;clear c5;replace H:=EA H;obtain ⟨t214,A6,H⟩:=H;obtain rfl:=Option.some.inj H;go_enter Try.func35,Try.ntmps35;go_wp2_with (first|(refine GC 34 ?_;refine GM (some 6) Try.func34 (impl_isReach.calls a0 true _ A3.out) ?_;rintro e w' ⟨rfl,⟨nd,rfl⟩⟩;refine ⟨_,rfl,?_⟩)|(go_at_call 46;(with_reducible refine (slices_ContainsFunc_int_int__impl_areSigns_1.calls k _ _ l1  t214 _ (CW HR1.out) HC1.out A6.out).mono ?_);rintro e w' ⟨rfl,⟨nd,rfl⟩⟩));go_ret;exact ⟨RF,DR⟩
  ·rw [if_neg c5] at H;have c5b0:=beq_eq_false_iff_ne.mpr c5;have c5b1:=bne_iff_ne.mpr c5;obtain rfl:=Option.some.inj H;go_enter Try.func35,Try.ntmps35;go_wp2_with (first|(refine GC 34 ?_;refine GM (some 6) Try.func34 (impl_isReach.calls a0 true _ A3.out) ?_;rintro e w' ⟨rfl,⟨nd,rfl⟩⟩;refine ⟨_,rfl,?_⟩));go_ret;exact ⟨RF,DR⟩
 ·replace c4:=NF c4;subst c4;replace H:=IN H;obtain rfl:=Option.some.inj H;go_enter Try.func35,Try.ntmps35;go_wp2_with (first|(refine GC 34 ?_;refine GM (some 6) Try.func34 (impl_isReach.calls a0 false _ A3.out) ?_;rintro e w' ⟨rfl,⟨nd,rfl⟩⟩;refine ⟨_,rfl,?_⟩));go_ret;exact ⟨RF,DR⟩

/-! ### impl_square_wide: function 49 -/
def impl_square_wide.f (a0_0 : Int) : Option (Int):=some (wrap64 ((wrap64 (2 * a0_0)) + 1))
theorem impl_square_wide.calls (a0_0 : Int) (r : Int) (w : World) (h : impl_square_wide.f a0_0 = some r) :
  Calls Try.prog 49 #[.agg #[.int .i64 a0_0]] w fun e w'=>e = .returned (.int .i64 r)∧Below w.heap.size w w':=by
 have hu43:=Try.underlying43;have HB:=HRf w;have H : (some (wrap64 ((wrap64 (2 * a0_0)) + 1))) = some r:=h;clear h;obtain rfl:=Option.some.inj H;go_enter Try.func49,Try.ntmps49;go_wp2_with (first|((with_reducible refine gate_dst (N:=1) rfl ?_);refine box_event ?hg (N:=1) ?hd (cs:=#[.int .i64 a0_0]) (t:=43) ?hr ?_;(case hd=>rfl);(case hg=>rfl);(case hr=>exact GS);intro gb215 hg w2 hbox hb;have BK215:=AM hbox;have GW215:=AM ((by rw [hg];exact (BZ BB) : w.heap.size ≤ gb215));have GE215:=AM ((by rw [hg];exact (BZ BB) : w.heap.size ≤ gb215));replace HB:=HS hb;clear hb hbox hg;have hcz3_0 : w2.cell? ⟨gb215,0,none⟩ = some (.int .i64 a0_0):=(BC BK215.out 0).trans rfl;have hfz3_0:=BF BK215.out 0));go_ret;exact ⟨RE,AGE GE215⟩

/-! ### impl_square_index: function 74 -/
def impl_square_index.f (a0_0 : Int) (a1 : Int) (a2 : Int) : Option (Int):=(impl_square_wide.f a0_0).bind fun t217=>(some (wrap64 ((wrap64 ((wrap64 (t217 * (wrap64 (a2 + a0_0)))) + a1)) + a0_0)))
def impl_square_index.T1 : Bool × List (List Nat × List Nat):=(true,[([],[]),([0],[0]),([],[]),([],[]),([3],[3]),([2,4],[2,4]),([1,5],[1,5]),([],[]),([6,7],[6,7]),([],[]),([9],[9]),([8,10],[8,10]),([11,1,0,1,2,3,4,5,6,7,8,9,10,11],[11])])
def impl_square_index.B1 : List Nat:=[0,1,0,0,8,28,63,0,255,0,512,2047,4095]
theorem impl_square_index.tab1 : rtab .any (opsOf Try.f74 1) = impl_square_index.T1:=by kernel_rfl
theorem impl_square_index.bits1 : waitsOk impl_square_index.T1.2 impl_square_index.B1 = true:=by kernel_rfl
theorem impl_square_index.calls (a0_0 : Int) (a1 : Int) (a2 : Int) (r : Int) (w : World) (h : impl_square_index.f a0_0 a1 a2 = some r) :
  Calls Try.prog 74 #[.agg #[.int .i64 a0_0],.int .i64 a1,.int .i64 a2] w fun e w'=>e = .returned (.int .i64 r)∧Below w.heap.size w w':=by
 have hu43:=Try.underlying43;have HB:=HRf w;have H : ((impl_square_wide.f a0_0).bind fun t217=>(some (wrap64 ((wrap64 ((wrap64 (t217 * (wrap64 (a2 + a0_0)))) + a1)) + a0_0)))) = some r:=h;clear h;replace H:=EA H;obtain ⟨t217,A4,H⟩:=H;obtain rfl:=Option.some.inj H;go_enter Try.func74,Try.ntmps74;try go_wp2_with (first|((with_reducible refine gate_dst (N:=3) rfl ?_);refine box_event ?hg (N:=3) ?hd (cs:=#[.int .i64 a0_0]) (t:=43) ?hr ?_;(case hd=>rfl);(case hg=>rfl);(case hr=>exact GS);intro gb216 hg w5 hbox hb;have BK216:=AM hbox;have GW216:=AM ((by rw [hg];exact (BZ BB) : w.heap.size ≤ gb216));have GE216:=AM ((by rw [hg];exact (BZ BB) : w.heap.size ≤ gb216));replace HB:=HS hb;clear hb hbox hg))
 replace BK216:=AM (blk_drew BK216.out);replace HB:=AM (below_drew1 HB.out);refine PSt (n:=13) (S:=fun w'=>w'.cell? ⟨gb216,0,none⟩ = some (.int .i64 a0_0)) (ds:=[]) ((BC BK216.out 0).trans rfl) (fun hHeld=>?_);refine with_tabW impl_square_index.tab1 impl_square_index.bits1 (fun HT_ HW_=>?_);generalize w5.drew = w6 at BK216 HB hHeld ⊢;refine PA 2 9 HT_ ?_;refine PA 3 10 HT_ ?_;refine PA 7 14 HT_ ?_;refine PA 9 16 HT_ ?_;refine take_ (i:=0) (N:=some 7) (v:=?_) (a':=?_) #[true,false,true,true,false,false,false,true,false,true,false,false,false] rfl rfl (take_ofW HT_.out HW_.out (by kernel_rfl)) (fun _ _ _ h=>h) (Or.inl ⟨by rfl,?_⟩) hHeld ?_ ?_;rotate_left
 ·intro w' s0;go_simp;with_reducible rfl
 rotate_left
 ·exact PU
 refine take_ (i:=4) (N:=some 11) (v:=?_) (a':=?_) #[true,false,true,true,true,false,false,true,false,true,false,false,false] rfl rfl (take_ofW HT_.out HW_.out (by kernel_rfl)) (fun _ _ _ h=>h) (Or.inl ⟨by rfl,?_⟩) hHeld ?_ ?_;rotate_left
 ·intro w' s0;go_simp;with_reducible rfl
 rotate_left
 ·exact PU
 refine PA 5 12 HT_ ?_;refine take_ (i:=10) (N:=some 17) (v:=?_) (a':=?_) #[true,false,true,true,true,true,false,true,false,true,true,false,false] rfl rfl (take_ofW HT_.out HW_.out (by kernel_rfl)) (fun _ _ _ h=>h) (Or.inl ⟨by rfl,?_⟩) hHeld ?_ ?_;rotate_left
 ·intro w' s0;go_simp;with_reducible rfl
 rotate_left
 ·exact PU
 refine PC 1 8 HT_ (fun K hK=>?_);refine goes_ Try.func49 (by kernel_rfl) rfl #[.agg #[.int .i64 a0_0]] (by rfl) rfl rfl TA ?_;with_reducible refine (impl_square_wide.calls a0_0 t217 _ A4.out).mono ?_
 rintro e w7 ⟨rfl,hb⟩;refine ⟨_,rfl,?_⟩;replace BK216:=AM (blk_below (g:=gb216) (o:=.cells #[.int .i64 a0_0] 43 (0,0)) (BW BK216) hb);replace HB:=HG GE216 hb;try clear hb
 refine hK.out _ _ ((BC BK216.out 0).trans rfl) (fun hHeld=>?_);clear hK K;refine norm_ (a':=?_) ?_ ?_;rotate_left
 ·show Act.put _ (some 8) _ = _;simp only [Act.put,List.setIfInBounds_toArray,List.set_cons_zero,List.set_cons_succ,i64_w,i32_w];rfl
 refine PA 6 13 HT_ ?_;refine PA 8 15 HT_ ?_;refine PA 11 18 HT_ ?_;refine PA 12 6 HT_ ?_;refine done_ (done_of HT_.out (by kernel_rfl)) ?_;try go_wp2
 go_ret;exact ⟨RE,AGE GE216⟩

end Go.Proofs.Ytlolkkfpfjlhmaa.PFnOppositeEdgesFound
