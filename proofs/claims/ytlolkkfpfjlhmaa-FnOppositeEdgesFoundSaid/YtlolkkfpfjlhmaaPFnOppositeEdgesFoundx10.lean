-- Written by a program of this session (wip/tools/pp.sh) out of the translation; Lean checks it.
import Derived.Test.YtlolkkfpfjlhmaaPFnOppositeEdgesFoundx1
namespace Go.Proofs.Ytlolkkfpfjlhmaa.PFnOppositeEdgesFound
open Go.RowKit Go.Proofs.YtlolkkfpfjlhmaaOwn Go.Proofs.YtlolkkfpfjlhmaaW.PrintWords Go.Proofs.YtlolkkfpfjlhmaaW.PrintLast Go.Proofs.YtlolkkfpfjlhmaaW.PrintMore
attribute [local go_sem] max2_int min2_int max_two min_two max_three min_three max_four min_four   -- for this text's walks alone
set_option linter.unusedVariables false
set_option maxHeartbeats 8000000
set_option maxRecDepth 100000
set_option linter.unusedSimpArgs false

/-! ### spec_l1In: function 57 -/
def spec_l1In.f (a0 : Int) (a1 : Int) (a2 : Int) : Option (Bool):=if a0 ≥ a1 then (some (decide (a0 ≤ a2))) else (some false)
theorem spec_l1In.calls (a0 : Int) (a1 : Int) (a2 : Int) (r : Bool) (w : World) (h : spec_l1In.f a0 a1 a2 = some r) :
  Calls Try.prog 57 #[.int .i64 a0,.int .i64 a1,.int .i64 a2] w fun e w'=>e = .returned (.bool r)∧Drawn0 w w':=by
 have H : (if a0 ≥ a1 then (some (decide (a0 ≤ a2))) else (some false)) = some r:=h;clear h;by_cases c4 : a0 ≥ a1
 ·rw [if_pos c4] at H;have c4b0:=DT c4;clear c4;obtain rfl:=Option.some.inj H;go_enter Try.func57,Try.ntmps57;go_wp2;go_ret;exact ⟨RF,DR⟩
 ·rw [if_neg c4] at H;have c4b0:=DF c4;clear c4;obtain rfl:=Option.some.inj H;go_enter Try.func57,Try.ntmps57;go_wp2;go_ret;exact ⟨RF,DR⟩

/-! ### spec_opReach: function 28 -/
def spec_opReach.f (a0 : Int) : Option (Bool):=(spec_l1In.f a0 1 4).bind fun t342=>(some t342)
theorem spec_opReach.calls (a0 : Int) (r : Bool) (w : World) (h : spec_opReach.f a0 = some r) :
  Calls Try.prog 28 #[.int .i64 a0] w fun e w'=>e = .returned (.bool r)∧Drawn0 w w':=by
 have H : ((spec_l1In.f a0 1 4).bind fun t342=>(some t342)) = some r:=h;clear h;replace H:=EA H;obtain ⟨t342,A2,H⟩:=H;obtain rfl:=Option.some.inj H;go_enter Try.func28,Try.ntmps28;go_wp2_with (first|(refine GC 57 ?_;refine GM (some 4) Try.func57 (spec_l1In.calls a0 1 4 t342 _ A2.out) ?_;rintro e w' ⟨rfl,⟨nd,rfl⟩⟩;refine ⟨_,rfl,?_⟩));go_ret;exact ⟨RF,DR⟩

/-! ### spec_opIndex: function 59 -/
def spec_opIndex.f (a0 : Int) (a1 : Int) (a2 : Int) : Option (Int):=some (wrap64 ((wrap64 ((wrap64 ((wrap64 ((wrap64 (2 * a0)) + 1)) * (wrap64 (a2 + a0)))) + a1)) + a0))
theorem spec_opIndex.calls (a0 : Int) (a1 : Int) (a2 : Int) (r : Int) (w : World) (h : spec_opIndex.f a0 a1 a2 = some r) :
  Calls Try.prog 59 #[.int .i64 a0,.int .i64 a1,.int .i64 a2] w fun e w'=>e = .returned (.int .i64 r)∧Drawn0 w w':=by
 have H : (some (wrap64 ((wrap64 ((wrap64 ((wrap64 ((wrap64 (2 * a0)) + 1)) * (wrap64 (a2 + a0)))) + a1)) + a0))) = some r:=h;clear h;obtain rfl:=Option.some.inj H;go_enter Try.func59,Try.ntmps59;go_wp2;go_ret;exact ⟨RF,DR⟩

/-! ### spec_opBorder: function 30 -/
mutual
def spec_opBorder.l0 : Nat→Int→List Int→Int→Option (List Int)
 | 0,_,_,_=>none
 | k + 1,x0,x3,x4=>if x4 < x0 then ((spec_opIndex.f x0 x4 (wrap64 (-x0))).bind fun t343=>(if x3.length < 17592186044416 then (spec_opBorder.l0 k x0 (x3 ++ [t343]) (wrap64 (x4 + 1))) else (none))) else (spec_opBorder.l1 k x0 x3 (wrap64 (-x0)))
def spec_opBorder.l1 : Nat→Int→List Int→Int→Option (List Int)
 | 0,_,_,_=>none
 | k + 1,x0,x3,x5=>if x5 < x0 then ((spec_opIndex.f x0 x0 x5).bind fun t347=>(if x3.length < 17592186044416 then (spec_opBorder.l1 k x0 (x3 ++ [t347]) (wrap64 (x5 + 1))) else (none))) else (spec_opBorder.l2 k x0 x3 x0)
def spec_opBorder.l2 : Nat→Int→List Int→Int→Option (List Int)
 | 0,_,_,_=>none
 | k + 1,x0,x3,x6=>if x6 > (wrap64 (-x0)) then ((spec_opIndex.f x0 x6 x0).bind fun t351=>(if x3.length < 17592186044416 then (spec_opBorder.l2 k x0 (x3 ++ [t351]) (wrap64 (x6 - 1))) else (none))) else (spec_opBorder.l3 k x0 x3 x0)
def spec_opBorder.l3 : Nat→Int→List Int→Int→Option (List Int)
 | 0,_,_,_=>none
 | k + 1,x0,x3,x7=>if x7 > (wrap64 (-x0)) then ((spec_opIndex.f x0 (wrap64 (-x0)) x7).bind fun t355=>(if x3.length < 17592186044416 then (spec_opBorder.l3 k x0 (x3 ++ [t355]) (wrap64 (x7 - 1))) else (none))) else (some x3)
end
def spec_opBorder.f (k : Nat) (a0 : Int) : Option (List Int):=spec_opBorder.l0 k a0 ([] : List Int) (wrap64 (-a0))
theorem spec_opBorder.mono_l : ∀ k,(∀ y0 y1 y2,LeO (spec_opBorder.l0 k y0 y1 y2) (spec_opBorder.l0 (k + 1) y0 y1 y2))∧(∀ y0 y1 y2,LeO (spec_opBorder.l1 k y0 y1 y2) (spec_opBorder.l1 (k + 1) y0 y1 y2))∧(∀ y0 y1 y2,LeO (spec_opBorder.l2 k y0 y1 y2) (spec_opBorder.l2 (k + 1) y0 y1 y2))∧(∀ y0 y1 y2,LeO (spec_opBorder.l3 k y0 y1 y2) (spec_opBorder.l3 (k + 1) y0 y1 y2))
 | 0=>⟨fun _ _ _=>LZ,fun _ _ _=>LZ,fun _ _ _=>LZ,fun _ _ _=>LZ⟩
 | k + 1=>by
  obtain ⟨ih0,ih1,ih2,ih3⟩:=spec_opBorder.mono_l k
  refine ⟨?_,?_,?_,?_⟩ <;> intros
  all_goals (first|unfold spec_opBorder.l0|unfold spec_opBorder.l1|unfold spec_opBorder.l2|unfold spec_opBorder.l3)
  all_goals exact MO
theorem spec_opBorder.mono : ∀ a0 k,LeO (spec_opBorder.f k a0) (spec_opBorder.f (k + 1) a0):=by
 intro a0 k;obtain ⟨ih0,ih1,ih2,ih3⟩:=spec_opBorder.mono_l k;unfold spec_opBorder.f
 exact MO
theorem spec_opBorder.calls (k : Nat) (a0 : Int) (r : List Int) (w : World) (h : spec_opBorder.f k a0 = some r) :
  Calls Try.prog 30 #[.int .i64 a0] w fun e w'=>∃ v0_ : Value,e = .returned (v0_)∧Kd.R (Kd.int .i64) 3 w' w.heap.size (fun _=>True) v0_ r∧Below w.heap.size w w':=by
 have HB:=HRf w;have H : (spec_opBorder.l0 k a0 ([] : List Int) (wrap64 (-a0))) = some r:=h;clear h;have H':=AM H;clear H;go_enter Try.func30,Try.ntmps30;go_wp2;go_loopg [3,4] k (fun kq v3 v4 w'=>∃ (x3_1 : List Int) (x4_1 : Int),v4 = .int .i64 x4_1∧Aside0 (spec_opBorder.l0 kq a0 x3_1 x4_1 = some r)∧Aside0 (kq ≤ k)∧Aside0 (Kd.R (Kd.int .i64) 3 w' w.heap.size (fun _=>True) v3 x3_1)∧Aside0 (Below w.heap.size w w'))
 case atStart=>exact ⟨(([] : List Int)),(wrap64 (-a0)),RF,H',⟨Nat.le_refl _⟩,⟨by first|exact Kd.R_nil _ _ _ _ _|exact Kd.N_nil _ _ _ _ _|exact Kd.V_nil _ _ _ _ _|exact Kd.Q_nil _ _ _ _ _|exact Kd.S_nil _ _ _ _ _⟩,⟨BB⟩⟩
 case round =>
  clear H';obtain ⟨x3_1,x4_1,rfl,HA,HK1,HO_3,HB⟩:=hrel;cases gk with
  | zero=>exact absurd HA.out (by simp [spec_opBorder.l0])
  | succ k1 =>
   have H:=HA.out;clear HA;simp only [spec_opBorder.l0] at H;by_cases c2 : x4_1 < a0
   ·rw [if_pos c2] at H;have c2b0:=DT c2;clear c2;replace H:=EA H;obtain ⟨t343,A3,H⟩:=H;replace H:=IC H;obtain ⟨c4,H⟩:=H;have LMc4:=AM c4;clear c4;obtain ⟨y344,hy344⟩ : ∃ y_ : List Int,y_ = (x3_1 ++ [t343]):=⟨_,rfl⟩;replace H : (spec_opBorder.l0 k1 a0 y344 (wrap64 (x4_1 + 1))) = some r:=HY H hy344;have Ny344:=AM hy344;clear hy344;have H':=AM H;clear H;go_wp2_with (first|(refine GC 59 ?_;refine GM (some 20) Try.func59 (spec_opIndex.calls a0 x4_1 (wrap64 (-a0)) t343 _ A3.out) ?_;rintro e w' ⟨rfl,⟨nd,rfl⟩⟩;refine ⟨_,rfl,?_⟩)|((with_reducible refine gate_builtin (b:=.append) (xs:=#[.tmp 15,.tmp 21]) rfl ?_);at_builtin;refine Kd.R_append (Kd.int .i64) (w0:=w) w.heap.size rfl (.tmp 15) (.tmp 21) 24 3 (.int .i64 0) 8 rfl Try.underlying24 info3 rfl (by decide) (by omega) u3 x3_1 t343 [.int .i64 t343] (fun _=>True) (fun _=>False) rfl rfl ?aP (fun _ hk=>hk.elim) ?aF ?aO ?aB ?aS ?aL ?_;(case aP=>exact rfl);(case aB=>exact BB);(case aF=>exact (fun _ _=>trivial));(case aO=>exact (KR HO_3));(case aS=>exact (BZ BB));(case aL=>have:=LMc4.out;omega);intro v345 w5 ho hb hg hat;rw [← Ny344.out] at ho;replace HB:=AM hb;have HO346:=AM ho;clear HO_3;clear ho hb hg hat));go_roundg k1
    case measure=>have:=HK1.out;omega
    case rel=>exact ⟨(y344),(wrap64 (x4_1 + 1)),RF,H',⟨by have:=HK1.out;omega⟩,⟨KR HO346⟩,⟨BB⟩⟩
   ·rw [if_neg c2] at H;have c2b0:=DF c2;clear c2;have H':=AM H;clear H;go_wp2;go_loopg [3,5] k1 (fun kq v3 v5 w'=>∃ (x3_2 : List Int) (x5_2 : Int),v5 = .int .i64 x5_2∧Aside0 (spec_opBorder.l1 kq a0 x3_2 x5_2 = some r)∧Aside0 (kq ≤ k1)∧Aside0 (Kd.R (Kd.int .i64) 3 w' w.heap.size (fun _=>True) v3 x3_2)∧Aside0 (Below w.heap.size w w'))
    case atStart=>exact ⟨(x3_1),(wrap64 (-a0)),RF,H',⟨Nat.le_refl _⟩,⟨KR HO_3⟩,⟨BB⟩⟩
    case round =>
     clear H';try clear c2
     try clear c2b0
     try clear p2
     try clear c3
     try clear c4
     try clear c5
     obtain ⟨x3_2,x5_2,rfl,HA,HK2,HO_3,HB⟩:=hrel;cases gk with
     | zero=>exact absurd HA.out (by simp [spec_opBorder.l1])
     | succ k2 =>
      have H:=HA.out;clear HA;simp only [spec_opBorder.l1] at H;by_cases c6 : x5_2 < a0
      ·rw [if_pos c6] at H;have c6b0:=DT c6;clear c6;replace H:=EA H;obtain ⟨t347,A7,H⟩:=H;replace H:=IC H;obtain ⟨c8,H⟩:=H;have LMc8:=AM c8;clear c8;obtain ⟨y348,hy348⟩ : ∃ y_ : List Int,y_ = (x3_2 ++ [t347]):=⟨_,rfl⟩;replace H : (spec_opBorder.l1 k2 a0 y348 (wrap64 (x5_2 + 1))) = some r:=HY H hy348;have Ny348:=AM hy348;clear hy348;have H':=AM H;clear H;go_wp2_with (first|(refine GC 59 ?_;refine GM (some 34) Try.func59 (spec_opIndex.calls a0 a0 x5_2 t347 _ A7.out) ?_;rintro e w' ⟨rfl,⟨nd,rfl⟩⟩;refine ⟨_,rfl,?_⟩)|((with_reducible refine gate_builtin (b:=.append) (xs:=#[.tmp 30,.tmp 35]) rfl ?_);at_builtin;refine Kd.R_append (Kd.int .i64) (w0:=w) w.heap.size rfl (.tmp 30) (.tmp 35) 24 3 (.int .i64 0) 8 rfl Try.underlying24 info3 rfl (by decide) (by omega) u3 x3_2 t347 [.int .i64 t347] (fun _=>True) (fun _=>False) rfl rfl ?aP (fun _ hk=>hk.elim) ?aF ?aO ?aB ?aS ?aL ?_;(case aP=>exact rfl);(case aB=>exact BB);(case aF=>exact (fun _ _=>trivial));(case aO=>exact (KR HO_3));(case aS=>exact (BZ BB));(case aL=>have:=LMc8.out;omega);intro v349 w9 ho hb hg hat;rw [← Ny348.out] at ho;replace HB:=AM hb;have HO350:=AM ho;clear HO_3;clear ho hb hg hat));go_roundg k2
       case measure=>have:=HK1.out;have:=HK2.out;omega
       case rel=>exact ⟨(y348),(wrap64 (x5_2 + 1)),RF,H',⟨by have:=HK1.out;have:=HK2.out;omega⟩,⟨KR HO350⟩,⟨BB⟩⟩
      ·rw [if_neg c6] at H;have c6b0:=DF c6;clear c6;have H':=AM H;clear H;go_wp2;go_loopg [3,6] k2 (fun kq v3 v6 w'=>∃ (x3_3 : List Int) (x6_3 : Int),v6 = .int .i64 x6_3∧Aside0 (spec_opBorder.l2 kq a0 x3_3 x6_3 = some r)∧Aside0 (kq ≤ k2)∧Aside0 (Kd.R (Kd.int .i64) 3 w' w.heap.size (fun _=>True) v3 x3_3)∧Aside0 (Below w.heap.size w w'))
       case atStart=>exact ⟨(x3_2),(a0),RF,H',⟨Nat.le_refl _⟩,⟨KR HO_3⟩,⟨BB⟩⟩
       case round =>
        clear H';try clear c2
        try clear c2b0
        try clear p2
        try clear c3
        try clear c4
        try clear c5
        try clear c6
        try clear c6b0
        try clear p6
        try clear c8
        try clear p2
        obtain ⟨x3_3,x6_3,rfl,HA,HK3,HO_3,HB⟩:=hrel;cases gk with
        | zero=>exact absurd HA.out (by simp [spec_opBorder.l2])
        | succ k3 =>
         have H:=HA.out;clear HA;simp only [spec_opBorder.l2] at H;by_cases c10 : x6_3 > (wrap64 (-a0))
         ·rw [if_pos c10] at H;have c10b0:=DT c10;clear c10;replace H:=EA H;obtain ⟨t351,A11,H⟩:=H;replace H:=IC H;obtain ⟨c12,H⟩:=H;have LMc12:=AM c12;clear c12;obtain ⟨y352,hy352⟩ : ∃ y_ : List Int,y_ = (x3_3 ++ [t351]):=⟨_,rfl⟩;replace H : (spec_opBorder.l2 k3 a0 y352 (wrap64 (x6_3 - 1))) = some r:=HY H hy352;have Ny352:=AM hy352;clear hy352;have H':=AM H;clear H;go_wp2_with (first|(refine GC 59 ?_;refine GM (some 48) Try.func59 (spec_opIndex.calls a0 x6_3 a0 t351 _ A11.out) ?_;rintro e w' ⟨rfl,⟨nd,rfl⟩⟩;refine ⟨_,rfl,?_⟩)|((with_reducible refine gate_builtin (b:=.append) (xs:=#[.tmp 44,.tmp 49]) rfl ?_);at_builtin;refine Kd.R_append (Kd.int .i64) (w0:=w) w.heap.size rfl (.tmp 44) (.tmp 49) 24 3 (.int .i64 0) 8 rfl Try.underlying24 info3 rfl (by decide) (by omega) u3 x3_3 t351 [.int .i64 t351] (fun _=>True) (fun _=>False) rfl rfl ?aP (fun _ hk=>hk.elim) ?aF ?aO ?aB ?aS ?aL ?_;(case aP=>exact rfl);(case aB=>exact BB);(case aF=>exact (fun _ _=>trivial));(case aO=>exact (KR HO_3));(case aS=>exact (BZ BB));(case aL=>have:=LMc12.out;omega);intro v353 w13 ho hb hg hat;rw [← Ny352.out] at ho;replace HB:=AM hb;have HO354:=AM ho;clear HO_3;clear ho hb hg hat));go_roundg k3
          case measure=>have:=HK1.out;have:=HK2.out;have:=HK3.out;omega
          case rel=>exact ⟨(y352),(wrap64 (x6_3 - 1)),RF,H',⟨by have:=HK1.out;have:=HK2.out;have:=HK3.out;omega⟩,⟨KR HO354⟩,⟨BB⟩⟩
         ·rw [if_neg c10] at H;have c10b0:=DF c10;clear c10;have H':=AM H;clear H;go_wp2;go_loopg [3,7] k3 (fun kq v3 v7 w'=>∃ (x3_4 : List Int) (x7_4 : Int),v7 = .int .i64 x7_4∧Aside0 (spec_opBorder.l3 kq a0 x3_4 x7_4 = some r)∧Aside0 (kq ≤ k3)∧Aside0 (Kd.R (Kd.int .i64) 3 w' w.heap.size (fun _=>True) v3 x3_4)∧Aside0 (Below w.heap.size w w'))
          case atStart=>exact ⟨(x3_3),(a0),RF,H',⟨Nat.le_refl _⟩,⟨KR HO_3⟩,⟨BB⟩⟩
          case round =>
           clear H';try clear c1
           try clear c2
           try clear c2b0
           try clear p2
           try clear c3
           try clear c4
           try clear c5
           try clear c6
           try clear c6b0
           try clear p6
           try clear c8
           try clear c10
           try clear c10b0
           try clear c12
           try clear p2
           try clear p6
           obtain ⟨x3_4,x7_4,rfl,HA,HK4,HO_3,HB⟩:=hrel;cases gk with
           | zero=>exact absurd HA.out (by simp [spec_opBorder.l3])
           | succ k4 =>
            have H:=HA.out;clear HA;simp only [spec_opBorder.l3] at H;by_cases c14 : x7_4 > (wrap64 (-a0))
            ·rw [if_pos c14] at H;have c14b0:=DT c14;clear c14;replace H:=EA H;obtain ⟨t355,A15,H⟩:=H;replace H:=IC H;obtain ⟨c16,H⟩:=H;have LMc16:=AM c16;clear c16;obtain ⟨y356,hy356⟩ : ∃ y_ : List Int,y_ = (x3_4 ++ [t355]):=⟨_,rfl⟩;replace H : (spec_opBorder.l3 k4 a0 y356 (wrap64 (x7_4 - 1))) = some r:=HY H hy356;have Ny356:=AM hy356;clear hy356;have H':=AM H;clear H;go_wp2_with (first|(refine GC 59 ?_;refine GM (some 63) Try.func59 (spec_opIndex.calls a0 (wrap64 (-a0)) x7_4 t355 _ A15.out) ?_;rintro e w' ⟨rfl,⟨nd,rfl⟩⟩;refine ⟨_,rfl,?_⟩)|((with_reducible refine gate_builtin (b:=.append) (xs:=#[.tmp 58,.tmp 64]) rfl ?_);at_builtin;refine Kd.R_append (Kd.int .i64) (w0:=w) w.heap.size rfl (.tmp 58) (.tmp 64) 24 3 (.int .i64 0) 8 rfl Try.underlying24 info3 rfl (by decide) (by omega) u3 x3_4 t355 [.int .i64 t355] (fun _=>True) (fun _=>False) rfl rfl ?aP (fun _ hk=>hk.elim) ?aF ?aO ?aB ?aS ?aL ?_;(case aP=>exact rfl);(case aB=>exact BB);(case aF=>exact (fun _ _=>trivial));(case aO=>exact (KR HO_3));(case aS=>exact (BZ BB));(case aL=>have:=LMc16.out;omega);intro v357 w17 ho hb hg hat;rw [← Ny356.out] at ho;replace HB:=AM hb;have HO358:=AM ho;clear HO_3;clear ho hb hg hat));go_roundg k4
             case measure=>have:=HK1.out;have:=HK2.out;have:=HK3.out;have:=HK4.out;omega
             case rel=>exact ⟨(y356),(wrap64 (x7_4 - 1)),RF,H',⟨by have:=HK1.out;have:=HK2.out;have:=HK3.out;have:=HK4.out;omega⟩,⟨KR HO358⟩,⟨BB⟩⟩
            ·rw [if_neg c14] at H;have c14b0:=DF c14;clear c14;obtain rfl:=Option.some.inj H;go_wp2;go_ret;exact ⟨_,RE,KR HO_3,BB⟩

/-! ### spec_opLabels: function 37 -/
mutual
def spec_opLabels.j0 : Nat→List Int→Bool→Option (Bool)
 | 0,_,_=>none
 | k + 1,x1,x16=>if x16 = true then (some false) else (spec_opLabels.l0 k x1 (x1.length : Int) 0)
def spec_opLabels.l0 : Nat→List Int→Int→Int→Option (Bool)
 | 0,_,_,_=>none
 | k + 1,x17,x18,x19=>if x19 < x18 then (if 0 ≤ x19 then (if x19 < (x17.length : Int) then ((spec_l1In.f (rd x17 x19) (-2) 2).bind fun t362=>(if t362 = true then (if (rd x17 x19) = 0 then (some false) else (spec_opLabels.l0 k x17 x18 (wrap64 (x19 + 1)))) else (some false))) else (none)) else (none)) else (some true)
end
def spec_opLabels.f (k : Nat) (a0 : Int) (l1 : List Int) : Option (Bool):=(spec_opReach.f a0).bind fun t359=>(if t359 = true then ((spec_opCount.f a0).bind fun t360=>(spec_opLabels.j0 k l1 ((l1.length : Int) != t360))) else (spec_opLabels.j0 k l1 true))
theorem spec_opLabels.mono_l : ∀ k,(∀ y0 y1,LeO (spec_opLabels.j0 k y0 y1) (spec_opLabels.j0 (k + 1) y0 y1))∧(∀ y0 y1 y2,LeO (spec_opLabels.l0 k y0 y1 y2) (spec_opLabels.l0 (k + 1) y0 y1 y2))
 | 0=>⟨fun _ _=>LZ,fun _ _ _=>LZ⟩
 | k + 1=>by
  obtain ⟨ih0,ih1⟩:=spec_opLabels.mono_l k
  refine ⟨?_,?_⟩ <;> intros
  all_goals (first|unfold spec_opLabels.j0|unfold spec_opLabels.l0)
  all_goals exact MO
theorem spec_opLabels.mono : ∀ a0 a1 k,LeO (spec_opLabels.f k a0 a1) (spec_opLabels.f (k + 1) a0 a1):=by
 intro a0 a1 k;obtain ⟨ih0,ih1⟩:=spec_opLabels.mono_l k;unfold spec_opLabels.f
 exact MO
theorem spec_opLabels.calls (k : Nat) (a0 : Int) (A1 : Option Addr) (c1 : Nat) (l1 : List Int) (r : Bool) (w : World) (hr1 : Kd.C (Kd.int .i64) w A1 l1.length l1) (hc1 : l1.length ≤ c1) (h : spec_opLabels.f k a0 l1 = some r) :
  Calls Try.prog 37 #[.int .i64 a0,.slice A1 l1.length c1] w fun e w'=>e = .returned (.bool r)∧Drawn0 w w':=by
 have HR1:=AM hr1;have HC1:=AM hc1;clear hr1 hc1;have H : ((spec_opReach.f a0).bind fun t359=>(if t359 = true then ((spec_opCount.f a0).bind fun t360=>(spec_opLabels.j0 k l1 ((l1.length : Int) != t360))) else (spec_opLabels.j0 k l1 true))) = some r:=h;clear h;have HC3:=AM H;clear H;go_enter Try.func37,Try.ntmps37;go_upto_region 1 with (fail)
 go_cut [16] (fun v16 wc=>∃ (kq : Nat) (x16_2 : Bool),v16 = .bool x16_2∧Aside0 (spec_opLabels.j0 kq l1 x16_2 = some r)∧Aside0 (kq ≤ k)∧Drawn0 w wc)
 case first =>
  have H:=HC3.out;clear HC3;replace H:=EA H;obtain ⟨t359,A4,H⟩:=H;by_cases c5 : t359 = true
  ·subst c5;replace H:=IP H;replace H:=EA H;obtain ⟨t360,A6,H⟩:=H;have H':=AM H;clear H;go_wp2_with (first|(refine GC 28 ?_;refine GM (some 8) Try.func28 (spec_opReach.calls a0 true _ A4.out) ?_;rintro e w' ⟨rfl,⟨nd,rfl⟩⟩;refine ⟨_,rfl,?_⟩)|(go_at_call 58;(with_reducible refine (spec_opCount.calls a0 t360 _ A6.out).mono ?_);rintro e w' ⟨rfl,⟨nd,rfl⟩⟩));go_meet
   case rel=>exact ⟨_,(((l1.length : Int) != t360)),RF,H',⟨by first|omega|exact Nat.le_refl _⟩,by repeat (first|exact Drawn0.refl _|apply Drawn0.step)⟩
  ·replace c5:=NF c5;subst c5;replace H:=IN H;have H':=AM H;clear H;go_wp2_with (first|(refine GC 28 ?_;refine GM (some 8) Try.func28 (spec_opReach.calls a0 false _ A4.out) ?_;rintro e w' ⟨rfl,⟨nd,rfl⟩⟩;refine ⟨_,rfl,?_⟩));go_meet
   case rel=>exact ⟨_,(true),RF,H',⟨by first|omega|exact Nat.le_refl _⟩,by repeat (first|exact Drawn0.refl _|apply Drawn0.step)⟩
 case rest =>
  clear HC3;try clear c1
  try clear c2
  try clear p2
  try clear c3
  try clear c5
  try clear p6
  obtain ⟨kq,x16_2,rfl,HA,HJ2,⟨mc2,rfl⟩⟩:=hcut;cases kq with
  | zero=>exact absurd HA.out (by simp [spec_opLabels.j0])
  | succ kj2 =>
   have H:=HA.out;clear HA;simp only [spec_opLabels.j0] at H;by_cases c7 : x16_2 = true
   ·subst c7;replace H:=IP H;obtain rfl:=Option.some.inj H;go_wp2;go_ret;exact ⟨RF,DR⟩
   ·replace c7:=NF c7;subst c7;replace H:=IN H;have H':=AM H;clear H;go_wp2;go_loopg [19] kj2 (fun kq v19 w'=>∃ (x19_2 : Int),v19 = .int .i64 x19_2∧Aside0 (spec_opLabels.l0 kq l1 (l1.length : Int) x19_2 = some r)∧Aside0 (kq ≤ kj2)∧Drawn0 w w')
    case atStart=>exact ⟨(0),RF,H',⟨Nat.le_refl _⟩,by repeat (first|exact Drawn0.refl _|apply Drawn0.step)⟩
    case round =>
     clear H';try clear c1
     try clear c2
     try clear p2
     try clear c3
     try clear c5
     try clear p6
     try clear c7
     try clear p2
     try clear p6
     obtain ⟨x19_2,rfl,HA,HK2,⟨m2,rfl⟩⟩:=hrel;cases gk with
     | zero=>exact absurd HA.out (by simp [spec_opLabels.l0])
     | succ k2 =>
      have H:=HA.out;clear HA;simp only [spec_opLabels.l0] at H;by_cases c8 : x19_2 < (l1.length : Int)
      ·rw [if_pos c8] at H;have c8b0:=DT c8;clear c8;replace H:=IC H;obtain ⟨c9,H⟩:=H;have c9b0:=DT c9;clear c9;replace H:=IC H;obtain ⟨c10,H⟩:=H;have c10b0:=DT c10;clear c10;replace H:=EA H;obtain ⟨t362,A11,H⟩:=H;by_cases c12 : t362 = true
       ·subst c12;replace H:=IP H;by_cases c13 : (rd l1 x19_2) = 0
        ·rw [if_pos c13] at H;have c13b0:=QT c13;have c13b1:=bne_eq_false_iff_eq.mpr c13;clear c13;obtain rfl:=Option.some.inj H;have p361 : 0 ≤ (x19_2 : Int):=OD AS;have q361 : x19_2 < (l1.length : Int):=OD AS;obtain ⟨ad361,e361,hx361_0⟩:=Kd.at_int HR1.out x19_2 p361 q361;cases e361;replace p361:=ET p361;replace q361:=ET q361;go_wp2_with (first|(refine GC 57 ?_;refine GM (some 24) Try.func57 (spec_l1In.calls (rd l1 x19_2) (-2) 2 true _ A11.out) ?_;rintro e w' ⟨rfl,⟨nd,rfl⟩⟩;refine ⟨_,rfl,?_⟩));go_ret;exact ⟨RF,DR⟩
        ·rw [if_neg c13] at H;have c13b0:=beq_eq_false_iff_ne.mpr c13;have c13b1:=bne_iff_ne.mpr c13;have H':=AM H;clear H;have p361 : 0 ≤ (x19_2 : Int):=OD AS;have q361 : x19_2 < (l1.length : Int):=OD AS;obtain ⟨ad361,e361,hx361_0⟩:=Kd.at_int HR1.out x19_2 p361 q361;cases e361;replace p361:=ET p361;replace q361:=ET q361;go_wp2_with (first|(refine GC 57 ?_;refine GM (some 24) Try.func57 (spec_l1In.calls (rd l1 x19_2) (-2) 2 true _ A11.out) ?_;rintro e w' ⟨rfl,⟨nd,rfl⟩⟩;refine ⟨_,rfl,?_⟩));go_roundg k2
         case measure=>have:=HJ2.out;have:=HK2.out;omega
         case rel=>exact ⟨(wrap64 (x19_2 + 1)),RF,H',⟨by have:=HJ2.out;have:=HK2.out;omega⟩,by repeat (first|exact Drawn0.refl _|apply Drawn0.step)⟩
       ·replace c12:=NF c12;subst c12;replace H:=IN H;obtain rfl:=Option.some.inj H;have p361 : 0 ≤ (x19_2 : Int):=OD AS;have q361 : x19_2 < (l1.length : Int):=OD AS;obtain ⟨ad361,e361,hx361_0⟩:=Kd.at_int HR1.out x19_2 p361 q361;cases e361;replace p361:=ET p361;replace q361:=ET q361;go_wp2_with (first|(refine GC 57 ?_;refine GM (some 24) Try.func57 (spec_l1In.calls (rd l1 x19_2) (-2) 2 false _ A11.out) ?_;rintro e w' ⟨rfl,⟨nd,rfl⟩⟩;refine ⟨_,rfl,?_⟩));go_ret;exact ⟨RF,DR⟩
      ·rw [if_neg c8] at H;have c8b0:=DF c8;clear c8;obtain rfl:=Option.some.inj H;go_wp2;go_ret;exact ⟨RF,DR⟩

/-! ### spec_opIs: function 29 -/
def spec_opIs.l0 : Nat→Int→List Int→List Int→Int→Int→Option (Bool)
 | 0,_,_,_,_,_=>none
 | k + 1,x0,x1,x12,x13,x14=>if x14 < x13 then (if 0 ≤ x14 then (if x14 < (x12.length : Int) then (if 0 ≤ (rd x12 x14) then (if (rd x12 x14) < (x1.length : Int) then ((spec_opCount.f x0).bind fun t369=>(if 0 ≤ (wrap64 ((wrap64 (t369 - 1)) - (rd x12 x14))) then (if (wrap64 ((wrap64 (t369 - 1)) - (rd x12 x14))) < (x1.length : Int) then (if (wrap64 ((rd x1 (rd x12 x14)) + (rd x1 (wrap64 ((wrap64 (t369 - 1)) - (rd x12 x14)))))) = 0 then (spec_opIs.l0 k x0 x1 x12 x13 (wrap64 (x14 + 1))) else (some false)) else (none)) else (none))) else (none)) else (none)) else (none)) else (none)) else (some true)
def spec_opIs.f (k : Nat) (a0 : Int) (l1 : List Int) : Option (Bool):=(spec_opLabels.f k a0 l1).bind fun t363=>(if t363 = true then ((spec_opBorder.f k a0).bind fun t364=>(spec_opIs.l0 k a0 l1 t364 (t364.length : Int) 0)) else (some false))
theorem spec_opIs.mono_l : ∀ k,(∀ y0 y1 y2 y3 y4,LeO (spec_opIs.l0 k y0 y1 y2 y3 y4) (spec_opIs.l0 (k + 1) y0 y1 y2 y3 y4))
 | 0=>fun _ _ _ _ _ r h=>by simp [spec_opIs.l0] at h
 | k + 1=>by
  have ih0:=spec_opIs.mono_l k
  ·intro y0 y1 y2 y3 y4
   unfold spec_opIs.l0
   have m0:=@spec_opBorder.mono
   have m1:=@spec_opLabels.mono
   exact MO
theorem spec_opIs.mono : ∀ a0 a1 k,LeO (spec_opIs.f k a0 a1) (spec_opIs.f (k + 1) a0 a1):=by
 intro a0 a1 k;have ih0:=spec_opIs.mono_l k;unfold spec_opIs.f
 have m0:=@spec_opBorder.mono
 have m1:=@spec_opLabels.mono
 exact MO
theorem spec_opIs.calls (k : Nat) (a0 : Int) (A1 : Option Addr) (c1 : Nat) (l1 : List Int) (r : Bool) (w : World) (hr1 : Kd.C (Kd.int .i64) w A1 l1.length l1) (hc1 : l1.length ≤ c1) (h : spec_opIs.f k a0 l1 = some r) :
  Calls Try.prog 29 #[.int .i64 a0,.slice A1 l1.length c1] w fun e w'=>e = .returned (.bool r)∧Below w.heap.size w w':=by
 have HR1:=AM hr1;have HC1:=AM hc1;clear hr1 hc1;have HB:=HRf w;have H : ((spec_opLabels.f k a0 l1).bind fun t363=>(if t363 = true then ((spec_opBorder.f k a0).bind fun t364=>(spec_opIs.l0 k a0 l1 t364 (t364.length : Int) 0)) else (some false))) = some r:=h;clear h;replace H:=EA H;obtain ⟨t363,A3,H⟩:=H;by_cases c4 : t363 = true
 ·subst c4;replace H:=IP H;replace H:=EA H;obtain ⟨t364,A5,H⟩:=H;have H':=AM H;clear H;go_enter Try.func29,Try.ntmps29;go_wp2_with (first|(go_at_call 37;(with_reducible refine (spec_opLabels.calls k a0 _ _ l1 true _ ?side1 ?side2 A3.out).mono ?_);(case side1=>exact CW HR1.out);(case side2=>exact HC1.out);rintro e w' ⟨rfl,⟨nd,rfl⟩⟩;(try exact DW))|(go_at_call 30;(with_reducible refine (spec_opBorder.calls k a0 t364 _ A5.out).mono ?_);rintro e w6 ⟨v365,rfl,ho0,hb⟩;have HO366:=AM (Kd.R_lower ho0 (BZ BB));replace HB:=HS hb;try clear hb ho0;obtain ⟨Ao7,co7,eo7⟩:=Kd.R_slice HO366.out;subst eo7));repeat (go_quiet (first|(go_at_call 37;(with_reducible refine (spec_opLabels.calls k a0 _ _ l1 true _ ?side1 ?side2 A3.out).mono ?_);(case side1=>exact CW HR1.out);(case side2=>exact HC1.out);rintro e w' ⟨rfl,⟨nd,rfl⟩⟩;(try exact DW))|(go_at_call 30;(with_reducible refine (spec_opBorder.calls k a0 t364 _ A5.out).mono ?_);rintro e w6 ⟨v365,rfl,ho0,hb⟩;have HO366:=AM (Kd.R_lower ho0 (BZ BB));replace HB:=HS hb;try clear hb ho0;obtain ⟨Ao7,co7,eo7⟩:=Kd.R_slice HO366.out;subst eo7));try go_wp2_with (first|(go_at_call 37;(with_reducible refine (spec_opLabels.calls k a0 _ _ l1 true _ (CW HR1.out) HC1.out A3.out).mono ?_);rintro e w' ⟨rfl,⟨nd,rfl⟩⟩;(try exact DW))|(go_at_call 30;(with_reducible refine (spec_opBorder.calls k a0 t364 _ A5.out).mono ?_);rintro e w6 ⟨v365,rfl,ho0,hb⟩;have HO366:=AM (Kd.R_lower ho0 (BZ BB));replace HB:=HS hb;try clear hb ho0;obtain ⟨Ao7,co7,eo7⟩:=Kd.R_slice HO366.out;subst eo7)))
  go_loopg [14] k (fun kq v14 w'=>∃ (x14_1 : Int),v14 = .int .i64 x14_1∧Aside0 (spec_opIs.l0 kq a0 l1 t364 (t364.length : Int) x14_1 = some r)∧Aside0 (kq ≤ k)∧Aside0 (Kd.R (Kd.int .i64) 3 w' w.heap.size (fun _=>True) (.slice Ao7 t364.length co7) t364)∧Aside0 (Below w.heap.size w w'))
  case atStart=>exact ⟨(0),RF,H',⟨Nat.le_refl _⟩,⟨KR HO366⟩,⟨BB⟩⟩
  case round =>
   clear H';try clear c1
   try clear c2
   try clear p2
   try clear c4
   try clear p6
   obtain ⟨x14_1,rfl,HA,HK1,HO_12,HB⟩:=hrel;cases gk with
   | zero=>exact absurd HA.out (by simp [spec_opIs.l0])
   | succ k1 =>
    have H:=HA.out;clear HA;simp only [spec_opIs.l0] at H;by_cases c8 : x14_1 < (t364.length : Int)
    ·rw [if_pos c8] at H;have c8b0:=DT c8;clear c8;replace H:=IC H;obtain ⟨c9,H⟩:=H;have c9b0:=DT c9;clear c9;replace H:=IC H;obtain ⟨c10,H⟩:=H;have c10b0:=DT c10;clear c10;replace H:=IC H;obtain ⟨c11,H⟩:=H;have c11b0:=DT c11;clear c11;replace H:=IC H;obtain ⟨c12,H⟩:=H;have c12b0:=DT c12;clear c12;replace H:=EA H;obtain ⟨t369,A13,H⟩:=H;obtain ⟨ji14,hji14⟩ : ∃ j_ : Int,(wrap64 ((wrap64 (t369 - 1)) - (rd t364 x14_1))) = j_:=⟨_,rfl⟩;replace H : (if 0 ≤ (ji14) then (if (ji14) < (l1.length : Int) then (if (wrap64 ((rd l1 (rd t364 x14_1)) + (rd l1 (ji14)))) = 0 then (spec_opIs.l0 k1 a0 l1 t364 (t364.length : Int) (wrap64 (x14_1 + 1))) else (some false)) else (none)) else (none)) = some r:=by first|(rw [hji14] at H;exact H)|(simp only [hji14] at H ⊢;exact H)
     (try rw [hji14] at A13);have hji14w : (IntKind.i64.wrap ((wrap64 (t369 - 1)) - (rd t364 x14_1))) = ji14:=(i64_w _).trans hji14;replace H:=IC H;obtain ⟨c15,H⟩:=H;have c15b0:=DT c15;clear c15;replace H:=IC H;obtain ⟨c16,H⟩:=H;have c16b0:=DT c16;clear c16;by_cases c17 : (wrap64 ((rd l1 (rd t364 x14_1)) + (rd l1 (ji14)))) = 0
     ·rw [if_pos c17] at H;have c17b0:=QT c17;have c17b1:=bne_eq_false_iff_eq.mpr c17;clear c17;have H':=AM H;clear H;have p367 : 0 ≤ (x14_1 : Int):=OD AS;have q367 : x14_1 < (t364.length : Int):=OD AS;obtain ⟨ad367,e367,hx367_0⟩:=Kd.at_int (Kd.R_reads' HO_12.out).2.2 x14_1 p367 q367;cases e367;replace p367:=ET p367;replace q367:=ET q367;have p368 : 0 ≤ ((rd t364 x14_1) : Int):=OD AS;have q368 : (rd t364 x14_1) < (l1.length : Int):=OD AS;obtain ⟨ad368,e368,hx368_0⟩:=Kd.at_int HR1.out (rd t364 x14_1) p368 q368;cases e368;try (replace hx368_0:=LC hx368_0)
      replace p368:=ET p368;replace q368:=ET q368;have p370 : 0 ≤ ((ji14) : Int):=OD AS;have q370 : (ji14) < (l1.length : Int):=OD AS;obtain ⟨ad370,e370,hx370_0⟩:=Kd.at_int HR1.out (ji14) p370 q370;obtain rfl : ad368 = ad370:=(by injection e370);replace hx370_0:=LC hx370_0;replace p370:=ET p370;replace q370:=ET q370;have p370 : 0 ≤ ((ji14) : Int):=OD AS;have q370 : (ji14) < (l1.length : Int):=OD AS;obtain ⟨ad370,e370,hx370_0⟩:=Kd.at_int HR1.out (ji14) p370 q370;obtain rfl : ad368 = ad370:=(by injection e370);replace hx370_0:=LC hx370_0;replace p370:=ET p370;replace q370:=ET q370;go_wp2_with (first|(go_at_call 58;(with_reducible refine (spec_opCount.calls a0 t369 _ A13.out).mono ?_);rintro e w' ⟨rfl,⟨nd,rfl⟩⟩;exact DW)|(go_at_call 58;(with_reducible refine (spec_opCount.calls a0 t369 _ A13.out).mono ?_);rintro e w' ⟨rfl,⟨nd,rfl⟩⟩;have p370 : 0 ≤ ((ji14) : Int):=OD AS;have q370 : (ji14) < (l1.length : Int):=OD AS;obtain ⟨ad370,e370,hx370_0⟩:=Kd.at_int HR1.out (ji14) p370 q370;obtain rfl : ad368 = ad370:=(by injection e370);replace hx370_0:=LC hx370_0;replace p370:=ET p370;replace q370:=ET q370));repeat (go_quiet (first|(go_at_call 58;(with_reducible refine (spec_opCount.calls a0 t369 _ A13.out).mono ?_);rintro e w' ⟨rfl,⟨nd,rfl⟩⟩;exact DW)|(go_at_call 58;(with_reducible refine (spec_opCount.calls a0 t369 _ A13.out).mono ?_);rintro e w' ⟨rfl,⟨nd,rfl⟩⟩;have p370 : 0 ≤ ((ji14) : Int):=OD AS;have q370 : (ji14) < (l1.length : Int):=OD AS;obtain ⟨ad370,e370,hx370_0⟩:=Kd.at_int HR1.out (ji14) p370 q370;obtain rfl : ad368 = ad370:=(by injection e370);replace hx370_0:=LC hx370_0;replace p370:=ET p370;replace q370:=ET q370));try go_wp2_with (first|(go_at_call 58;(with_reducible refine (spec_opCount.calls a0 t369 _ A13.out).mono ?_);rintro e w' ⟨rfl,⟨nd,rfl⟩⟩;exact DW)|(go_at_call 58;(with_reducible refine (spec_opCount.calls a0 t369 _ A13.out).mono ?_);rintro e w' ⟨rfl,⟨nd,rfl⟩⟩;have p370 : 0 ≤ ((ji14) : Int):=OD AS;have q370 : (ji14) < (l1.length : Int):=OD AS;obtain ⟨ad370,e370,hx370_0⟩:=Kd.at_int HR1.out (ji14) p370 q370;obtain rfl : ad368 = ad370:=(by injection e370);replace hx370_0:=LC hx370_0;replace p370:=ET p370;replace q370:=ET q370)))
      go_roundg k1
      case measure=>have:=HK1.out;omega
      case rel=>exact ⟨(wrap64 (x14_1 + 1)),RF,H',⟨by have:=HK1.out;omega⟩,⟨KR HO_12⟩,⟨BB⟩⟩
     ·rw [if_neg c17] at H;have c17b0:=beq_eq_false_iff_ne.mpr c17;have c17b1:=bne_iff_ne.mpr c17;obtain rfl:=Option.some.inj H;have p367 : 0 ≤ (x14_1 : Int):=OD AS;have q367 : x14_1 < (t364.length : Int):=OD AS;obtain ⟨ad367,e367,hx367_0⟩:=Kd.at_int (Kd.R_reads' HO_12.out).2.2 x14_1 p367 q367;cases e367;replace p367:=ET p367;replace q367:=ET q367;have p368 : 0 ≤ ((rd t364 x14_1) : Int):=OD AS;have q368 : (rd t364 x14_1) < (l1.length : Int):=OD AS;obtain ⟨ad368,e368,hx368_0⟩:=Kd.at_int HR1.out (rd t364 x14_1) p368 q368;cases e368;try (replace hx368_0:=LC hx368_0)
      replace p368:=ET p368;replace q368:=ET q368;have p370 : 0 ≤ ((ji14) : Int):=OD AS;have q370 : (ji14) < (l1.length : Int):=OD AS;obtain ⟨ad370,e370,hx370_0⟩:=Kd.at_int HR1.out (ji14) p370 q370;obtain rfl : ad368 = ad370:=(by injection e370);replace hx370_0:=LC hx370_0;replace p370:=ET p370;replace q370:=ET q370;have p370 : 0 ≤ ((ji14) : Int):=OD AS;have q370 : (ji14) < (l1.length : Int):=OD AS;obtain ⟨ad370,e370,hx370_0⟩:=Kd.at_int HR1.out (ji14) p370 q370;obtain rfl : ad368 = ad370:=(by injection e370);replace hx370_0:=LC hx370_0;replace p370:=ET p370;replace q370:=ET q370;go_wp2_with (first|(go_at_call 58;(with_reducible refine (spec_opCount.calls a0 t369 _ A13.out).mono ?_);rintro e w' ⟨rfl,⟨nd,rfl⟩⟩;exact DW)|(go_at_call 58;(with_reducible refine (spec_opCount.calls a0 t369 _ A13.out).mono ?_);rintro e w' ⟨rfl,⟨nd,rfl⟩⟩;have p370 : 0 ≤ ((ji14) : Int):=OD AS;have q370 : (ji14) < (l1.length : Int):=OD AS;obtain ⟨ad370,e370,hx370_0⟩:=Kd.at_int HR1.out (ji14) p370 q370;obtain rfl : ad368 = ad370:=(by injection e370);replace hx370_0:=LC hx370_0;replace p370:=ET p370;replace q370:=ET q370));repeat (go_quiet (first|(go_at_call 58;(with_reducible refine (spec_opCount.calls a0 t369 _ A13.out).mono ?_);rintro e w' ⟨rfl,⟨nd,rfl⟩⟩;exact DW)|(go_at_call 58;(with_reducible refine (spec_opCount.calls a0 t369 _ A13.out).mono ?_);rintro e w' ⟨rfl,⟨nd,rfl⟩⟩;have p370 : 0 ≤ ((ji14) : Int):=OD AS;have q370 : (ji14) < (l1.length : Int):=OD AS;obtain ⟨ad370,e370,hx370_0⟩:=Kd.at_int HR1.out (ji14) p370 q370;obtain rfl : ad368 = ad370:=(by injection e370);replace hx370_0:=LC hx370_0;replace p370:=ET p370;replace q370:=ET q370));try go_wp2_with (first|(go_at_call 58;(with_reducible refine (spec_opCount.calls a0 t369 _ A13.out).mono ?_);rintro e w' ⟨rfl,⟨nd,rfl⟩⟩;exact DW)|(go_at_call 58;(with_reducible refine (spec_opCount.calls a0 t369 _ A13.out).mono ?_);rintro e w' ⟨rfl,⟨nd,rfl⟩⟩;have p370 : 0 ≤ ((ji14) : Int):=OD AS;have q370 : (ji14) < (l1.length : Int):=OD AS;obtain ⟨ad370,e370,hx370_0⟩:=Kd.at_int HR1.out (ji14) p370 q370;obtain rfl : ad368 = ad370:=(by injection e370);replace hx370_0:=LC hx370_0;replace p370:=ET p370;replace q370:=ET q370)))
      go_ret;exact ⟨by first|rfl|(simp [errW_none,errW_some] <;> rfl)|(simp only [← hji14];first|rfl|(simp [errW_none,errW_some] <;> rfl))|(simp [*,errW_none,errW_some] <;> rfl),BB⟩
    ·rw [if_neg c8] at H;have c8b0:=DF c8;clear c8;obtain rfl:=Option.some.inj H;go_wp2;repeat (go_quiet (fail);try go_wp2)
     go_ret;exact ⟨RE,BB⟩
 ·replace c4:=NF c4;subst c4;replace H:=IN H;obtain rfl:=Option.some.inj H;go_enter Try.func29,Try.ntmps29;go_wp2_with (first|(go_at_call 37;(with_reducible refine (spec_opLabels.calls k a0 _ _ l1 false _ ?side1 ?side2 A3.out).mono ?_);(case side1=>exact CW HR1.out);(case side2=>exact HC1.out);rintro e w' ⟨rfl,⟨nd,rfl⟩⟩;(try exact DW)));repeat (go_quiet (first|(go_at_call 37;(with_reducible refine (spec_opLabels.calls k a0 _ _ l1 false _ ?side1 ?side2 A3.out).mono ?_);(case side1=>exact CW HR1.out);(case side2=>exact HC1.out);rintro e w' ⟨rfl,⟨nd,rfl⟩⟩;(try exact DW)));try go_wp2_with (first|(go_at_call 37;(with_reducible refine (spec_opLabels.calls k a0 _ _ l1 false _ (CW HR1.out) HC1.out A3.out).mono ?_);rintro e w' ⟨rfl,⟨nd,rfl⟩⟩;(try exact DW))))
  go_ret;exact ⟨RE,BB⟩

/-! ### spec_l1Least: function 60 -/
def spec_l1Least.f (a0 : Int) (a1 : Int) : Option (Int):=if a0 < a1 then (some a0) else (some a1)
theorem spec_l1Least.calls (a0 : Int) (a1 : Int) (r : Int) (w : World) (h : spec_l1Least.f a0 a1 = some r) :
  Calls Try.prog 60 #[.int .i64 a0,.int .i64 a1] w fun e w'=>e = .returned (.int .i64 r)∧Drawn0 w w':=by
 have H : (if a0 < a1 then (some a0) else (some a1)) = some r:=h;clear h;by_cases c3 : a0 < a1
 ·rw [if_pos c3] at H;have c3b0:=DT c3;clear c3;obtain rfl:=Option.some.inj H;go_enter Try.func60,Try.ntmps60;go_wp2;go_ret;exact ⟨RF,DR⟩
 ·rw [if_neg c3] at H;have c3b0:=DF c3;clear c3;obtain rfl:=Option.some.inj H;go_enter Try.func60,Try.ntmps60;go_wp2;go_ret;exact ⟨RF,DR⟩

/-! ### spec_doInner: function 31 -/
def spec_doInner.f (a0 : Int) (a1 : Int) : Option (List Int):=(spec_l1Least.f a0 a1).bind fun t371=>((spec_l1Most.f a0 a1).bind fun t372=>(some (([t371,t372] : List Int))))
theorem spec_doInner.calls (a0 : Int) (a1 : Int) (r : List Int) (w : World) (h : spec_doInner.f a0 a1 = some r) :
  Calls Try.prog 31 #[.int .i64 a0,.int .i64 a1] w fun e w'=>∃ v0_ : Value,e = .returned (v0_)∧Kd.R (Kd.int .i64) 3 w' w.heap.size (fun _=>True) v0_ r∧Below w.heap.size w w':=by
 have HB:=HRf w;have H : ((spec_l1Least.f a0 a1).bind fun t371=>((spec_l1Most.f a0 a1).bind fun t372=>(some (([t371,t372] : List Int))))) = some r:=h;clear h;replace H:=EA H;obtain ⟨t371,A3,H⟩:=H;replace H:=EA H;obtain ⟨t372,A4,H⟩:=H;obtain ⟨y373,hy373⟩ : ∃ y_ : List Int,y_ = (([t371,t372] : List Int)):=⟨_,rfl⟩;replace H : (some y373) = some r:=HY H hy373;have Ny373:=AM hy373;clear hy373;obtain rfl:=Option.some.inj H;go_enter Try.func31,Try.ntmps31;go_wp2_with (first|(refine GC 60 ?_;refine GM (some 7) Try.func60 (spec_l1Least.calls a0 a1 t371 _ A3.out) ?_;rintro e w' ⟨rfl,⟨nd,rfl⟩⟩;refine ⟨_,rfl,?_⟩)|(refine GC 61 ?_;refine GM (some 10) Try.func61 (spec_l1Most.calls a0 a1 t372 _ A4.out) ?_;rintro e w' ⟨rfl,⟨nd,rfl⟩⟩;refine ⟨_,rfl,?_⟩)|((with_reducible refine gate_dst (N:=11) rfl ?_);refine Kd.R_lit (Kd.int .i64) _ 3 ?hg (N:=11) ?hd (xs:=([t371,t372] : List Int)) (inner:=[.int .i64 t371,.int .i64 t372]) (ok:=fun _=>True) (okp:=fun _=>True) ?hr ?hp (fun _ hk=>hk) trivial (Below.refl _ _) (Nat.le_refl _) (by simp) ?_;(case hd=>rfl);(case hg=>rfl);(case hr=>exact GS);(case hp=>exact (Reps.one (show Kd.M (Kd.int .i64) _ _ _ t371 [.int .i64 t371] from rfl) (Reps.one (show Kd.M (Kd.int .i64) _ _ _ t372 [.int .i64 t372] from rfl) (Reps.none _ _))));intro v374 w5 ho6 hb hg_ hnew_;clear hg_ hnew_;(first|rw [← Ny373.out] at ho6|(simp only [Int.reduceToNat] at ho6;rw [← Ny373.out] at ho6));have HO375:=AM (Kd.R_lower ho6 (BZ BB));replace HB:=HS hb;clear hb ho6));go_ret;exact ⟨_,RE,KR HO375,BB⟩

end Go.Proofs.Ytlolkkfpfjlhmaa.PFnOppositeEdgesFound
