-- Written by a program of this session (wip/tools/pp.sh) out of the translation; Lean checks it.
import Derived.Deep.CutRange
import Derived.Test.YtlolkkfpfjlhmaaPFnOppositeEdgesFoundx9
import Derived.Test.YtlolkkfpfjlhmaaPFnOppositeEdgesFoundx14
import Derived.Test.YtlolkkfpfjlhmaaPFnOppositeEdgesFoundx15
import Derived.Test.YtlolkkfpfjlhmaaPFnOppositeEdgesFoundx16
import Derived.Test.YtlolkkfpfjlhmaaPFnOppositeEdgesFoundx18
import Derived.Test.YtlolkkfpfjlhmaaPFnOppositeEdgesFoundx19
namespace Go.Proofs.Ytlolkkfpfjlhmaa.PFnOppositeEdgesFound
open Go.RowKit Go.Proofs.YtlolkkfpfjlhmaaOwn Go.Proofs.YtlolkkfpfjlhmaaW.PrintWords Go.Proofs.YtlolkkfpfjlhmaaW.PrintLast Go.Proofs.YtlolkkfpfjlhmaaW.PrintMore
attribute [local go_sem] max2_int min2_int max_two min_two max_three min_three max_four min_four   -- for this text's walks alone
set_option linter.unusedVariables false
set_option maxHeartbeats 8000000
set_option maxRecDepth 100000
set_option linter.unusedSimpArgs false

/-! ### laws_FnOppositeEdgesFound: function 3 -/
mutual
def laws_FnOppositeEdgesFound.j0 : Nat→List Int→List Int→Bool→List (List Int)→Bool→Option (Bool)
 | 0,_,_,_,_,_=>none
 | k + 1,x1,x7,x8,x15,x123=>if x123 = true then (none) else (if x8 = true then (laws_FnOppositeEdgesFound.l0 k x1 x7 false x15 (x15.length : Int) 0) else (laws_FnOppositeEdgesFound.j2 k x1))
def laws_FnOppositeEdgesFound.j2 : Nat→List Int→Option (Bool)
 | 0,_=>none
 | k + 1,x1=>(spec_DrawSquareWalk.f k x1).bind fun bt633=>((impl_SquareWalk.f k bt633.1 bt633.2.1 bt633.2.2.1 bt633.2.2.2).bind fun bt639=>((spec_SquareWalk.f k bt633.1 bt633.2.1 bt633.2.2.1 bt633.2.2.2).bind fun bt646=>((impl_SquareDoors.f k bt633.1 bt633.2.1).bind fun bt653=>((spec_SquareDoors.f k bt633.1 bt633.2.1).bind fun bt657=>(if (bt639.2.2 != bt646.2.2) = true then (none) else ((laws_uSame.f k bt639.1 bt646.1).bind fun t661=>(if t661 = true then ((laws_uSame.f k bt639.2.1 bt646.2.1).bind fun t662=>(if t662 = true then (if (bt653.2 != bt657.2) = true then (none) else ((laws_uSameRows.f k bt653.1 bt657.1).bind fun t663=>(if t663 = true then (if bt639.2.2 = true then (laws_FnOppositeEdgesFound.j3 k bt633.1 bt633.2.1 bt639.1 bt639.2.1 bt639.2.2 (!bt653.2)) else (laws_FnOppositeEdgesFound.j3 k bt633.1 bt633.2.1 bt639.1 bt639.2.1 bt639.2.2 false)) else (none)))) else (none))) else (none))))))))
def laws_FnOppositeEdgesFound.j3 : Nat→Int→List Int→List Int→List Int→Bool→Bool→Option (Bool)
 | 0,_,_,_,_,_,_=>none
 | k + 1,x22,x23,x26,x27,x28,x209=>if x209 = true then (none) else (if x28 = true then ((impl_SquareCells.f k x22).bind fun bt664=>(if bt664.2 = true then (laws_FnOppositeEdgesFound.j4 k x23 x26 x27 bt664.1 ((x26.length : Int) == 0)) else (none))) else (some true))
def laws_FnOppositeEdgesFound.j4 : Nat→List Int→List Int→List Int→List (List Int)→Bool→Option (Bool)
 | 0,_,_,_,_,_=>none
 | k + 1,x23,x26,x27,x36,x222=>if x222 = true then (none) else (laws_FnOppositeEdgesFound.l1 k x23 x26 x27 x36 x26 (x26.length : Int) 0)
def laws_FnOppositeEdgesFound.l1 : Nat→List Int→List Int→List Int→List (List Int)→List Int→Int→Int→Option (Bool)
 | 0,_,_,_,_,_,_,_=>none
 | k + 1,x23,x26,x27,x36,x223,x224,x225=>if x225 < x224 then (if 0 ≤ x225 then (if x225 < (x223.length : Int) then (if 0 ≤ (rd x223 x225) then (if (rd x223 x225) < (x36.length : Int) then (laws_FnOppositeEdgesFound.l2 k x23 x26 x27 x36 x225 (rd x223 x225) false x223 x224 x225 (rd_L2 x36 (rd x223 x225)) ((rd_L2 x36 (rd x223 x225)).length : Int) 0) else (none)) else (none)) else (none)) else (none)) else (if (x27.length : Int) = 2 then (if 0 < (x27.length : Int) then (if 0 ≤ (rd x27 0) then (if (rd x27 0) < (x23.length : Int) then (if 1 < (x27.length : Int) then (if 0 ≤ (rd x27 1) then (if (rd x27 1) < (x23.length : Int) then (if (wrap64 ((rd x23 (rd x27 0)) + (rd x23 (rd x27 1)))) = 0 then (some true) else (none)) else (none)) else (none)) else (none)) else (none)) else (none)) else (none)) else (some true))
def laws_FnOppositeEdgesFound.l2 : Nat→List Int→List Int→List Int→List (List Int)→Int→Int→Bool→List Int→Int→Int→List Int→Int→Int→Option (Bool)
 | 0,_,_,_,_,_,_,_,_,_,_,_,_,_=>none
 | k + 1,x23,x26,x27,x36,x38,x39,x40,x223,x224,x225,x233,x234,x235=>if x235 < x234 then (if 0 ≤ x235 then (if x235 < (x233.length : Int) then (if 0 ≤ x39 then (if x39 < (x36.length : Int) then (if 0 ≤ (wrap64 (x235 + 1)) then (if (wrap64 (x235 + 1)) ≤ ((rd_L2 x36 x39).length : Int) then ((some ((rd_L2 x36 x39).drop ((wrap64 (x235 + 1)) : Int).toNat : List Int)).bind fun y676=>(laws_FnOppositeEdgesFound.l3 k x23 x26 x27 x36 x38 x39 x40 (rd x233 x235) x223 x224 x225 x233 x234 x235 y676 (y676.length : Int) 0)) else (none)) else (none)) else (none)) else (none)) else (none)) else (none)) else (if (x27.length : Int) > 0 then (if (x40 != (x38 == (wrap64 ((x26.length : Int) - 1)))) = true then (none) else (laws_FnOppositeEdgesFound.l1 k x23 x26 x27 x36 x223 x224 (wrap64 (x225 + 1)))) else (if (x40 != false) = true then (none) else (laws_FnOppositeEdgesFound.l1 k x23 x26 x27 x36 x223 x224 (wrap64 (x225 + 1)))))
def laws_FnOppositeEdgesFound.l3 : Nat→List Int→List Int→List Int→List (List Int)→Int→Int→Bool→Int→List Int→Int→Int→List Int→Int→Int→List Int→Int→Int→Option (Bool)
 | 0,_,_,_,_,_,_,_,_,_,_,_,_,_,_,_,_,_=>none
 | k + 1,x23,x26,x27,x36,x38,x39,x40,x42,x223,x224,x225,x233,x234,x235,x246,x247,x248=>if x248 < x247 then (if 0 ≤ x248 then (if x248 < (x246.length : Int) then (if x40 = true then (laws_FnOppositeEdgesFound.l3 k x23 x26 x27 x36 x38 x39 true x42 x223 x224 x225 x233 x234 x235 x246 x247 (wrap64 (x248 + 1))) else (if 0 ≤ x42 then (if x42 < (x23.length : Int) then (if 0 ≤ (rd x246 x248) then (if (rd x246 x248) < (x23.length : Int) then (laws_FnOppositeEdgesFound.l3 k x23 x26 x27 x36 x38 x39 ((wrap64 ((rd x23 x42) + (rd x23 (rd x246 x248)))) == 0) x42 x223 x224 x225 x233 x234 x235 x246 x247 (wrap64 (x248 + 1))) else (none)) else (none)) else (none)) else (none))) else (none)) else (none)) else (laws_FnOppositeEdgesFound.l2 k x23 x26 x27 x36 x38 x39 x40 x223 x224 x225 x233 x234 (wrap64 (x235 + 1)))
def laws_FnOppositeEdgesFound.l0 : Nat→List Int→List Int→Bool→List (List Int)→Int→Int→Option (Bool)
 | 0,_,_,_,_,_,_=>none
 | k + 1,x1,x7,x19,x125,x126,x127=>if x127 < x126 then (if 0 ≤ x127 then (if x127 < (x125.length : Int) then (if x19 = true then (laws_FnOppositeEdgesFound.l0 k x1 x7 true x125 x126 (wrap64 (x127 + 1))) else ((laws_uSame.f k (rd_L2 x125 x127) x7).bind fun t632=>(laws_FnOppositeEdgesFound.l0 k x1 x7 t632 x125 x126 (wrap64 (x127 + 1))))) else (none)) else (none)) else (if x19 = true then (laws_FnOppositeEdgesFound.j2 k x1) else (none))
end
def laws_FnOppositeEdgesFound.f (k : Nat) (l0 : List Int) (l1 : List Int) : Option (Bool):=(laws_big.f l0 l1).bind fun t604=>(if t604 = true then (some true) else ((spec_DrawFindOpposite.f k l0).bind fun bt605=>((impl_FindOpposite.f k bt605.1 bt605.2).bind fun bt609=>((spec_FindOpposite.f k bt605.1 bt605.2).bind fun bt613=>((impl_AreOpposite.f k bt605.1 bt605.2).bind fun bt617=>((spec_AreOpposite.f k bt605.1 bt605.2).bind fun bt619=>((impl_OppositeEdges.f k bt605.1 bt605.2).bind fun bt621=>((spec_OppositeEdges.f k bt605.1 bt605.2).bind fun bt625=>(if (bt609.2 != bt613.2) = true then (none) else ((laws_uSame.f k bt609.1 bt613.1).bind fun t629=>(if t629 = true then (if (bt617.2 != bt619.2) = true then (none) else (if (bt617.1 != bt619.1) = true then (none) else (if (bt621.2 != bt625.2) = true then (none) else ((laws_uSameRows.f k bt621.1 bt625.1).bind fun t630=>(if t630 = true then (laws_FnOppositeEdgesFound.j0 k l1 bt609.1 bt609.2 bt621.1 (bt609.2 != bt617.1)) else (none)))))) else (none))))))))))))
theorem laws_FnOppositeEdgesFound.mono_l : ∀ k,(∀ y0 y1 y2 y3 y4,LeO (laws_FnOppositeEdgesFound.j0 k y0 y1 y2 y3 y4) (laws_FnOppositeEdgesFound.j0 (k + 1) y0 y1 y2 y3 y4))∧(∀ y0,LeO (laws_FnOppositeEdgesFound.j2 k y0) (laws_FnOppositeEdgesFound.j2 (k + 1) y0))∧(∀ y0 y1 y2 y3 y4 y5,LeO (laws_FnOppositeEdgesFound.j3 k y0 y1 y2 y3 y4 y5) (laws_FnOppositeEdgesFound.j3 (k + 1) y0 y1 y2 y3 y4 y5))∧(∀ y0 y1 y2 y3 y4,LeO (laws_FnOppositeEdgesFound.j4 k y0 y1 y2 y3 y4) (laws_FnOppositeEdgesFound.j4 (k + 1) y0 y1 y2 y3 y4))∧(∀ y0 y1 y2 y3 y4 y5 y6,LeO (laws_FnOppositeEdgesFound.l1 k y0 y1 y2 y3 y4 y5 y6) (laws_FnOppositeEdgesFound.l1 (k + 1) y0 y1 y2 y3 y4 y5 y6))∧(∀ y0 y1 y2 y3 y4 y5 y6 y7 y8 y9 y10 y11 y12,LeO (laws_FnOppositeEdgesFound.l2 k y0 y1 y2 y3 y4 y5 y6 y7 y8 y9 y10 y11 y12) (laws_FnOppositeEdgesFound.l2 (k + 1) y0 y1 y2 y3 y4 y5 y6 y7 y8 y9 y10 y11 y12))∧(∀ y0 y1 y2 y3 y4 y5 y6 y7 y8 y9 y10 y11 y12 y13 y14 y15 y16,LeO (laws_FnOppositeEdgesFound.l3 k y0 y1 y2 y3 y4 y5 y6 y7 y8 y9 y10 y11 y12 y13 y14 y15 y16) (laws_FnOppositeEdgesFound.l3 (k + 1) y0 y1 y2 y3 y4 y5 y6 y7 y8 y9 y10 y11 y12 y13 y14 y15 y16))∧(∀ y0 y1 y2 y3 y4 y5,LeO (laws_FnOppositeEdgesFound.l0 k y0 y1 y2 y3 y4 y5) (laws_FnOppositeEdgesFound.l0 (k + 1) y0 y1 y2 y3 y4 y5))
 | 0=>⟨fun _ _ _ _ _=>LZ,fun _=>LZ,fun _ _ _ _ _ _=>LZ,fun _ _ _ _ _=>LZ,fun _ _ _ _ _ _ _=>LZ,fun _ _ _ _ _ _ _ _ _ _ _ _ _=>LZ,fun _ _ _ _ _ _ _ _ _ _ _ _ _ _ _ _ _=>LZ,fun _ _ _ _ _ _=>LZ⟩
 | k + 1=>by
  obtain ⟨ih0,ih1,ih2,ih3,ih4,ih5,ih6,ih7⟩:=laws_FnOppositeEdgesFound.mono_l k
  refine ⟨?_,?_,?_,?_,?_,?_,?_,?_⟩ <;> intros
  all_goals (first|unfold laws_FnOppositeEdgesFound.j0|unfold laws_FnOppositeEdgesFound.j2|unfold laws_FnOppositeEdgesFound.j3|unfold laws_FnOppositeEdgesFound.j4|unfold laws_FnOppositeEdgesFound.l1|unfold laws_FnOppositeEdgesFound.l2|unfold laws_FnOppositeEdgesFound.l3|unfold laws_FnOppositeEdgesFound.l0)
  all_goals
   repeat' first
   | with_reducible first|exact ih0 _ _ _ _ _|exact ih1 _|exact ih2 _ _ _ _ _ _|exact ih3 _ _ _ _ _|exact ih4 _ _ _ _ _ _ _|exact ih5 _ _ _ _ _ _ _ _ _ _ _ _ _|exact ih6 _ _ _ _ _ _ _ _ _ _ _ _ _ _ _ _ _|exact ih7 _ _ _ _ _ _|exact impl_AreOpposite.mono _ _ _|exact impl_FindOpposite.mono _ _ _|exact impl_OppositeEdges.mono _ _ _|exact impl_SquareCells.mono _ _|exact impl_SquareDoors.mono _ _ _|exact impl_SquareWalk.mono _ _ _ _ _|exact laws_uSame.mono _ _ _|exact laws_uSameRows.mono _ _ _|exact spec_AreOpposite.mono _ _ _|exact spec_DrawFindOpposite.mono _ _|exact spec_DrawSquareWalk.mono _ _|exact spec_FindOpposite.mono _ _ _|exact spec_OppositeEdges.mono _ _ _|exact spec_SquareDoors.mono _ _ _|exact spec_SquareWalk.mono _ _ _ _ _|exact LeO.refl _|exact LeO.none _|refine LeO.ite ?_ ?_|refine LeO.bind ?_ (fun _=>?_)
   | exact LeO.none _|refine LeO.ite ?_ ?_|refine LeO.bind ?_ (fun _=>?_)
theorem laws_FnOppositeEdgesFound.mono : ∀ a0 a1 k,LeO (laws_FnOppositeEdgesFound.f k a0 a1) (laws_FnOppositeEdgesFound.f (k + 1) a0 a1):=by
 intro a0 a1 k;obtain ⟨ih0,ih1,ih2,ih3,ih4,ih5,ih6,ih7⟩:=laws_FnOppositeEdgesFound.mono_l k;unfold laws_FnOppositeEdgesFound.f
 repeat' first
   | with_reducible first|exact ih0 _ _ _ _ _|exact ih1 _|exact ih2 _ _ _ _ _ _|exact ih3 _ _ _ _ _|exact ih4 _ _ _ _ _ _ _|exact ih5 _ _ _ _ _ _ _ _ _ _ _ _ _|exact ih6 _ _ _ _ _ _ _ _ _ _ _ _ _ _ _ _ _|exact ih7 _ _ _ _ _ _|exact impl_AreOpposite.mono _ _ _|exact impl_FindOpposite.mono _ _ _|exact impl_OppositeEdges.mono _ _ _|exact impl_SquareCells.mono _ _|exact impl_SquareDoors.mono _ _ _|exact impl_SquareWalk.mono _ _ _ _ _|exact laws_uSame.mono _ _ _|exact laws_uSameRows.mono _ _ _|exact spec_AreOpposite.mono _ _ _|exact spec_DrawFindOpposite.mono _ _|exact spec_DrawSquareWalk.mono _ _|exact spec_FindOpposite.mono _ _ _|exact spec_OppositeEdges.mono _ _ _|exact spec_SquareDoors.mono _ _ _|exact spec_SquareWalk.mono _ _ _ _ _|exact LeO.refl _|exact LeO.none _|refine LeO.ite ?_ ?_|refine LeO.bind ?_ (fun _=>?_)
   | exact LeO.none _|refine LeO.ite ?_ ?_|refine LeO.bind ?_ (fun _=>?_)
theorem laws_FnOppositeEdgesFound.calls (k : Nat) (A0 : Option Addr) (c0 : Nat) (l0 : List Int) (A1 : Option Addr) (c1 : Nat) (l1 : List Int) (r : Bool) (w : World) (hr0 : Kd.C (Kd.int .u8) w A0 l0.length l0) (hc0 : l0.length ≤ c0) (hr1 : Kd.C (Kd.int .u8) w A1 l1.length l1) (hc1 : l1.length ≤ c1) (h : laws_FnOppositeEdgesFound.f k l0 l1 = some r) :
  Calls Try.prog 3 #[.slice A0 l0.length c0,.slice A1 l1.length c1] w fun e w'=>e = .returned (.bool r)∧Below w.heap.size w w':=by
 have HR0:=AM hr0;have HC0:=AM hc0;clear hr0 hc0;have HR1:=AM hr1;have HC1:=AM hc1;clear hr1 hc1;have HB:=HRf w;have H : ((laws_big.f l0 l1).bind fun t604=>(if t604 = true then (some true) else ((spec_DrawFindOpposite.f k l0).bind fun bt605=>((impl_FindOpposite.f k bt605.1 bt605.2).bind fun bt609=>((spec_FindOpposite.f k bt605.1 bt605.2).bind fun bt613=>((impl_AreOpposite.f k bt605.1 bt605.2).bind fun bt617=>((spec_AreOpposite.f k bt605.1 bt605.2).bind fun bt619=>((impl_OppositeEdges.f k bt605.1 bt605.2).bind fun bt621=>((spec_OppositeEdges.f k bt605.1 bt605.2).bind fun bt625=>(if (bt609.2 != bt613.2) = true then (none) else ((laws_uSame.f k bt609.1 bt613.1).bind fun t629=>(if t629 = true then (if (bt617.2 != bt619.2) = true then (none) else (if (bt617.1 != bt619.1) = true then (none) else (if (bt621.2 != bt625.2) = true then (none) else ((laws_uSameRows.f k bt621.1 bt625.1).bind fun t630=>(if t630 = true then (laws_FnOppositeEdgesFound.j0 k l1 bt609.1 bt609.2 bt621.1 (bt609.2 != bt617.1)) else (none)))))) else (none))))))))))))) = some r:=h;clear h;replace H:=EA H;obtain ⟨t604,A3,H⟩:=H;by_cases c4 : t604 = true
 ·subst c4;replace H:=IP H;obtain rfl:=Option.some.inj H;go_enter Try.func3,Try.ntmps3;go_wp2_with (first|(go_at_call 4;(with_reducible refine (laws_big.calls _ _ l0 _ _ l1 true _ ?side1 ?side2 ?side3 ?side4 A3.out).mono ?_);(case side1=>exact CW HR0.out);(case side2=>exact HC0.out);(case side3=>exact CW HR1.out);(case side4=>exact HC1.out);rintro e w' ⟨rfl,⟨nd,rfl⟩⟩;(try exact DW)));repeat (go_quiet (first|(go_at_call 4;(with_reducible refine (laws_big.calls _ _ l0 _ _ l1 true _ ?side1 ?side2 ?side3 ?side4 A3.out).mono ?_);(case side1=>exact CW HR0.out);(case side2=>exact HC0.out);(case side3=>exact CW HR1.out);(case side4=>exact HC1.out);rintro e w' ⟨rfl,⟨nd,rfl⟩⟩;(try exact DW)));try go_wp2_with (first|(go_at_call 4;(with_reducible refine (laws_big.calls _ _ l0 _ _ l1 true _ ?side1 ?side2 ?side3 ?side4 A3.out).mono ?_);(case side1=>exact CW HR0.out);(case side2=>exact HC0.out);(case side3=>exact CW HR1.out);(case side4=>exact HC1.out);rintro e w' ⟨rfl,⟨nd,rfl⟩⟩;(try exact DW))))
  go_ret;exact ⟨RE,BB⟩
 ·replace c4:=NF c4;subst c4;replace H:=IN H;replace H:=EA H;obtain ⟨⟨t605,t606⟩,A5,H⟩:=H;try dsimp only at H
  replace H:=EA H;obtain ⟨⟨t609,t610⟩,A6,H⟩:=H;try dsimp only at H
  replace H:=EA H;obtain ⟨⟨t613,t614⟩,A7,H⟩:=H;try dsimp only at H
  replace H:=EA H;obtain ⟨⟨t617,t618⟩,A8,H⟩:=H;try dsimp only at H
  replace H:=EA H;obtain ⟨⟨t619,t620⟩,A9,H⟩:=H;try dsimp only at H
  replace H:=EA H;obtain ⟨⟨t621,t622⟩,A10,H⟩:=H;try dsimp only at H
  replace H:=EA H;obtain ⟨⟨t625,t626⟩,A11,H⟩:=H;try dsimp only at H
  have HC12:=AM H;clear H;go_enter Try.func3,Try.ntmps3;go_upto_region 10 with (first|(go_at_call 4;(with_reducible refine (laws_big.calls _ _ l0 _ _ l1 false _ ?side1 ?side2 ?side3 ?side4 A3.out).mono ?_);(case side1=>exact CW HR0.out);(case side2=>exact HC0.out);(case side3=>exact CW HR1.out);(case side4=>exact HC1.out);rintro e w' ⟨rfl,⟨nd,rfl⟩⟩;(try exact DW))|(go_at_call 5;(with_reducible refine (spec_DrawFindOpposite.calls k _ _ l0 t605 t606 _ ?side1 ?side2 A5.out).mono ?_);(case side1=>exact CW HR0.out);(case side2=>exact HC0.out);rintro e w13 ⟨v607,rfl,ho0,hb⟩;have HO608:=AM (Kd.R_lower ho0 (BZ BB));replace HB:=HS hb;try clear hb ho0;obtain ⟨Ao14,co14,eo14⟩:=Kd.R_slice HO608.out;subst eo14)|(go_at_call 6;(with_reducible refine (impl_FindOpposite.calls k t605 _ _ t606 t609 t610 _ ?side1 ?side2 A6.out).mono ?_);(case side1=>exact CW (Kd.R_reads' HO608.out).2.2);(case side2=>exact (Kd.R_reads' HO608.out).2.1);rintro e w15 ⟨v611,rfl,ho0,hb⟩;have HO612:=AM (Kd.R_lower (Kd.R_new' ho0 (Kd.R_lt (KR HO608))) (BZ BB));replace HO608:=RO HO608 ho0 hb;replace HB:=HS hb;try clear hb ho0)|(go_at_call 7;(with_reducible refine (spec_FindOpposite.calls k t605 _ _ t606 t613 t614 _ ?side1 ?side2 A7.out).mono ?_);(case side1=>exact CW (Kd.R_reads' HO608.out).2.2);(case side2=>exact (Kd.R_reads' HO608.out).2.1);rintro e w16 ⟨v615,rfl,ho0,hb⟩;have HO616:=AM (Kd.R_lower (Kd.R_new' (Kd.R_new' ho0 (Kd.R_lt (KR HO608))) (Kd.R_lt (KR HO612))) (BZ BB));replace HO608:=RO HO608 ho0 hb;replace HO612:=RO HO612 ho0 hb;replace HB:=HS hb;try clear hb ho0)|(go_at_call 8;(with_reducible refine (impl_AreOpposite.calls k t605 _ _ t606 t617 t618 _ ?side1 ?side2 A8.out).mono ?_);(case side1=>exact CW (Kd.R_reads' HO608.out).2.2);(case side2=>exact (Kd.R_reads' HO608.out).2.1);rintro e w17 ⟨rfl,hb⟩;replace HO608:=RB HO608 hb;replace HO612:=RB HO612 hb;replace HO616:=RB HO616 hb;replace HB:=HS hb;try clear hb)|(go_at_call 9;(with_reducible refine (spec_AreOpposite.calls k t605 _ _ t606 t619 t620 _ ?side1 ?side2 A9.out).mono ?_);(case side1=>exact CW (Kd.R_reads' HO608.out).2.2);(case side2=>exact (Kd.R_reads' HO608.out).2.1);rintro e w18 ⟨rfl,hb⟩;replace HO608:=RB HO608 hb;replace HO612:=RB HO612 hb;replace HO616:=RB HO616 hb;replace HB:=HS hb;try clear hb)|(go_at_call 10;(with_reducible refine (impl_OppositeEdges.calls k t605 _ _ t606 t621 t622 _ ?side1 ?side2 A10.out).mono ?_);(case side1=>exact CW (Kd.R_reads' HO608.out).2.2);(case side2=>exact (Kd.R_reads' HO608.out).2.1);rintro e w19 ⟨v623,rfl,ho0,hb⟩;have HO624:=AM (Kd.S_lower (Kd.S_new' (Kd.S_new' (Kd.S_new' ho0 (Kd.R_lt (KR HO608))) (Kd.R_lt (KR HO612))) (Kd.R_lt (KR HO616))) (BZ BB));replace HO608:=RB HO608 hb;replace HO612:=RB HO612 hb;replace HO616:=RB HO616 hb;replace HB:=HS hb;try clear hb ho0)|(go_at_call 11;(with_reducible refine (spec_OppositeEdges.calls k t605 _ _ t606 t625 t626 _ ?side1 ?side2 A11.out).mono ?_);(case side1=>exact CW (Kd.R_reads' HO608.out).2.2);(case side2=>exact (Kd.R_reads' HO608.out).2.1);rintro e w20 ⟨v627,rfl,ho0,hb⟩;have HO628:=AM (Kd.S_lower (Kd.S_new' (Kd.S_new' (Kd.S_new' (Kd.S_new' ho0 (Kd.R_lt (KR HO608))) (Kd.R_lt (KR HO612))) (Kd.R_lt (KR HO616))) (Kd.S_lt (KS HO624))) (BZ BB));replace HO608:=RB HO608 hb;replace HO612:=RB HO612 hb;replace HO616:=RB HO616 hb;replace HO624:=AM (Kd.S_elder' (KS HO624) (Kd.S_base ho0) hb);replace HB:=HS hb;try clear hb ho0))
  repeat (go_quiet (first|(go_at_call 4;(with_reducible refine (laws_big.calls _ _ l0 _ _ l1 false _ ?side1 ?side2 ?side3 ?side4 A3.out).mono ?_);(case side1=>exact CW HR0.out);(case side2=>exact HC0.out);(case side3=>exact CW HR1.out);(case side4=>exact HC1.out);rintro e w' ⟨rfl,⟨nd,rfl⟩⟩;(try exact DW))|(go_at_call 5;(with_reducible refine (spec_DrawFindOpposite.calls k _ _ l0 t605 t606 _ ?side1 ?side2 A5.out).mono ?_);(case side1=>exact CW HR0.out);(case side2=>exact HC0.out);rintro e w13 ⟨v607,rfl,ho0,hb⟩;have HO608:=AM (Kd.R_lower ho0 (BZ BB));replace HB:=HS hb;try clear hb ho0;obtain ⟨Ao14,co14,eo14⟩:=Kd.R_slice HO608.out;subst eo14)|(go_at_call 6;(with_reducible refine (impl_FindOpposite.calls k t605 _ _ t606 t609 t610 _ ?side1 ?side2 A6.out).mono ?_);(case side1=>exact CW (Kd.R_reads' HO608.out).2.2);(case side2=>exact (Kd.R_reads' HO608.out).2.1);rintro e w15 ⟨v611,rfl,ho0,hb⟩;have HO612:=AM (Kd.R_lower (Kd.R_new' ho0 (Kd.R_lt (KR HO608))) (BZ BB));replace HO608:=RO HO608 ho0 hb;replace HB:=HS hb;try clear hb ho0)|(go_at_call 7;(with_reducible refine (spec_FindOpposite.calls k t605 _ _ t606 t613 t614 _ ?side1 ?side2 A7.out).mono ?_);(case side1=>exact CW (Kd.R_reads' HO608.out).2.2);(case side2=>exact (Kd.R_reads' HO608.out).2.1);rintro e w16 ⟨v615,rfl,ho0,hb⟩;have HO616:=AM (Kd.R_lower (Kd.R_new' (Kd.R_new' ho0 (Kd.R_lt (KR HO608))) (Kd.R_lt (KR HO612))) (BZ BB));replace HO608:=RO HO608 ho0 hb;replace HO612:=RO HO612 ho0 hb;replace HB:=HS hb;try clear hb ho0)|(go_at_call 8;(with_reducible refine (impl_AreOpposite.calls k t605 _ _ t606 t617 t618 _ ?side1 ?side2 A8.out).mono ?_);(case side1=>exact CW (Kd.R_reads' HO608.out).2.2);(case side2=>exact (Kd.R_reads' HO608.out).2.1);rintro e w17 ⟨rfl,hb⟩;replace HO608:=RB HO608 hb;replace HO612:=RB HO612 hb;replace HO616:=RB HO616 hb;replace HB:=HS hb;try clear hb)|(go_at_call 9;(with_reducible refine (spec_AreOpposite.calls k t605 _ _ t606 t619 t620 _ ?side1 ?side2 A9.out).mono ?_);(case side1=>exact CW (Kd.R_reads' HO608.out).2.2);(case side2=>exact (Kd.R_reads' HO608.out).2.1);rintro e w18 ⟨rfl,hb⟩;replace HO608:=RB HO608 hb;replace HO612:=RB HO612 hb;replace HO616:=RB HO616 hb;replace HB:=HS hb;try clear hb)|(go_at_call 10;(with_reducible refine (impl_OppositeEdges.calls k t605 _ _ t606 t621 t622 _ ?side1 ?side2 A10.out).mono ?_);(case side1=>exact CW (Kd.R_reads' HO608.out).2.2);(case side2=>exact (Kd.R_reads' HO608.out).2.1);rintro e w19 ⟨v623,rfl,ho0,hb⟩;have HO624:=AM (Kd.S_lower (Kd.S_new' (Kd.S_new' (Kd.S_new' ho0 (Kd.R_lt (KR HO608))) (Kd.R_lt (KR HO612))) (Kd.R_lt (KR HO616))) (BZ BB));replace HO608:=RB HO608 hb;replace HO612:=RB HO612 hb;replace HO616:=RB HO616 hb;replace HB:=HS hb;try clear hb ho0)|(go_at_call 11;(with_reducible refine (spec_OppositeEdges.calls k t605 _ _ t606 t625 t626 _ ?side1 ?side2 A11.out).mono ?_);(case side1=>exact CW (Kd.R_reads' HO608.out).2.2);(case side2=>exact (Kd.R_reads' HO608.out).2.1);rintro e w20 ⟨v627,rfl,ho0,hb⟩;have HO628:=AM (Kd.S_lower (Kd.S_new' (Kd.S_new' (Kd.S_new' (Kd.S_new' ho0 (Kd.R_lt (KR HO608))) (Kd.R_lt (KR HO612))) (Kd.R_lt (KR HO616))) (Kd.S_lt (KS HO624))) (BZ BB));replace HO608:=RB HO608 hb;replace HO612:=RB HO612 hb;replace HO616:=RB HO616 hb;replace HO624:=AM (Kd.S_elder' (KS HO624) (Kd.S_base ho0) hb);replace HB:=HS hb;try clear hb ho0));go_upto_region 10 with (first|(go_at_call 4;(with_reducible refine (laws_big.calls _ _ l0 _ _ l1 false _ ?side1 ?side2 ?side3 ?side4 A3.out).mono ?_);(case side1=>exact CW HR0.out);(case side2=>exact HC0.out);(case side3=>exact CW HR1.out);(case side4=>exact HC1.out);rintro e w' ⟨rfl,⟨nd,rfl⟩⟩;(try exact DW))|(go_at_call 5;(with_reducible refine (spec_DrawFindOpposite.calls k _ _ l0 t605 t606 _ ?side1 ?side2 A5.out).mono ?_);(case side1=>exact CW HR0.out);(case side2=>exact HC0.out);rintro e w13 ⟨v607,rfl,ho0,hb⟩;have HO608:=AM (Kd.R_lower ho0 (BZ BB));replace HB:=HS hb;try clear hb ho0;obtain ⟨Ao14,co14,eo14⟩:=Kd.R_slice HO608.out;subst eo14)|(go_at_call 6;(with_reducible refine (impl_FindOpposite.calls k t605 _ _ t606 t609 t610 _ ?side1 ?side2 A6.out).mono ?_);(case side1=>exact CW (Kd.R_reads' HO608.out).2.2);(case side2=>exact (Kd.R_reads' HO608.out).2.1);rintro e w15 ⟨v611,rfl,ho0,hb⟩;have HO612:=AM (Kd.R_lower (Kd.R_new' ho0 (Kd.R_lt (KR HO608))) (BZ BB));replace HO608:=RO HO608 ho0 hb;replace HB:=HS hb;try clear hb ho0)|(go_at_call 7;(with_reducible refine (spec_FindOpposite.calls k t605 _ _ t606 t613 t614 _ ?side1 ?side2 A7.out).mono ?_);(case side1=>exact CW (Kd.R_reads' HO608.out).2.2);(case side2=>exact (Kd.R_reads' HO608.out).2.1);rintro e w16 ⟨v615,rfl,ho0,hb⟩;have HO616:=AM (Kd.R_lower (Kd.R_new' (Kd.R_new' ho0 (Kd.R_lt (KR HO608))) (Kd.R_lt (KR HO612))) (BZ BB));replace HO608:=RO HO608 ho0 hb;replace HO612:=RO HO612 ho0 hb;replace HB:=HS hb;try clear hb ho0)|(go_at_call 8;(with_reducible refine (impl_AreOpposite.calls k t605 _ _ t606 t617 t618 _ ?side1 ?side2 A8.out).mono ?_);(case side1=>exact CW (Kd.R_reads' HO608.out).2.2);(case side2=>exact (Kd.R_reads' HO608.out).2.1);rintro e w17 ⟨rfl,hb⟩;replace HO608:=RB HO608 hb;replace HO612:=RB HO612 hb;replace HO616:=RB HO616 hb;replace HB:=HS hb;try clear hb)|(go_at_call 9;(with_reducible refine (spec_AreOpposite.calls k t605 _ _ t606 t619 t620 _ ?side1 ?side2 A9.out).mono ?_);(case side1=>exact CW (Kd.R_reads' HO608.out).2.2);(case side2=>exact (Kd.R_reads' HO608.out).2.1);rintro e w18 ⟨rfl,hb⟩;replace HO608:=RB HO608 hb;replace HO612:=RB HO612 hb;replace HO616:=RB HO616 hb;replace HB:=HS hb;try clear hb)|(go_at_call 10;(with_reducible refine (impl_OppositeEdges.calls k t605 _ _ t606 t621 t622 _ ?side1 ?side2 A10.out).mono ?_);(case side1=>exact CW (Kd.R_reads' HO608.out).2.2);(case side2=>exact (Kd.R_reads' HO608.out).2.1);rintro e w19 ⟨v623,rfl,ho0,hb⟩;have HO624:=AM (Kd.S_lower (Kd.S_new' (Kd.S_new' (Kd.S_new' ho0 (Kd.R_lt (KR HO608))) (Kd.R_lt (KR HO612))) (Kd.R_lt (KR HO616))) (BZ BB));replace HO608:=RB HO608 hb;replace HO612:=RB HO612 hb;replace HO616:=RB HO616 hb;replace HB:=HS hb;try clear hb ho0)|(go_at_call 11;(with_reducible refine (spec_OppositeEdges.calls k t605 _ _ t606 t625 t626 _ ?side1 ?side2 A11.out).mono ?_);(case side1=>exact CW (Kd.R_reads' HO608.out).2.2);(case side2=>exact (Kd.R_reads' HO608.out).2.1);rintro e w20 ⟨v627,rfl,ho0,hb⟩;have HO628:=AM (Kd.S_lower (Kd.S_new' (Kd.S_new' (Kd.S_new' (Kd.S_new' ho0 (Kd.R_lt (KR HO608))) (Kd.R_lt (KR HO612))) (Kd.R_lt (KR HO616))) (Kd.S_lt (KS HO624))) (BZ BB));replace HO608:=RB HO608 hb;replace HO612:=RB HO612 hb;replace HO616:=RB HO616 hb;replace HO624:=AM (Kd.S_elder' (KS HO624) (Kd.S_base ho0) hb);replace HB:=HS hb;try clear hb ho0)))
  (try simp only [Act.put,List.setIfInBounds_toArray,List.set_cons_zero,List.set_cons_succ]);go_cut [123] from 45 to 123 (fun v123 wc=>∃ (kq : Nat) (x123_11 : Bool),v123 = .bool x123_11∧Aside0 (laws_FnOppositeEdgesFound.j0 kq l1 t609 t610 t621 x123_11 = some r)∧Aside0 (kq ≤ k)∧Aside0 (Kd.R (Kd.int .i64) 3 wc w.heap.size (fun _=>True) v611 t609)∧Aside0 (Kd.S (Kd.slice 3 (Kd.int .i64)) 24 wc w.heap.size (fun k_=>some k_≠(v611 : Value).ownBlock) v623 t621)∧Aside0 (Below w.heap.size w wc))
  case first=>as_aux_lemma =>
   have H:=HC12.out;clear HC12;replace H:=ID H;obtain ⟨c21,H⟩:=H;have c21b0 : (t610 != t614) = false:=by simpa using c21
   (try (have c21b1 : decide (t610 = t614) = true:=by simpa using c21))
   (try (have c21b2 : (t610 == t614) = true:=by simpa using c21));clear c21
   (first|rw [c21b0]|(simp only [i64_w,i32_w];rw [c21b0])|skip);replace H:=EA H;obtain ⟨t629,A22,H⟩:=H;replace H:=IC H;obtain ⟨rfl,H⟩:=H;replace H:=ID H;obtain ⟨c24,H⟩:=H;have c24b0 : (t618 != t620) = false:=by simpa using c24
   (try (have c24b1 : decide (t618 = t620) = true:=by simpa using c24))
   (try (have c24b2 : (t618 == t620) = true:=by simpa using c24));clear c24;replace H:=ID H;obtain ⟨c25,H⟩:=H;have c25b0 : (t617 != t619) = false:=by simpa using c25
   (try (have c25b1 : decide (t617 = t619) = true:=by simpa using c25))
   (try (have c25b2 : (t617 == t619) = true:=by simpa using c25));clear c25;replace H:=ID H;obtain ⟨c26,H⟩:=H;have c26b0 : (t622 != t626) = false:=by simpa using c26
   (try (have c26b1 : decide (t622 = t626) = true:=by simpa using c26))
   (try (have c26b2 : (t622 == t626) = true:=by simpa using c26));clear c26;replace H:=EA H;obtain ⟨t630,A27,H⟩:=H;replace H:=IC H;obtain ⟨rfl,H⟩:=H;have H':=AM H;clear H;obtain ⟨Ao29,co29,eo29⟩:=Kd.R_slice HO612.out;subst eo29;obtain ⟨Ao30,co30,eo30⟩:=Kd.R_slice HO616.out;subst eo30;go_wp2_with (first|(go_at_call 12;(with_reducible refine (laws_uSame.calls k _ _ t609 _ _ t613 true _ ?side1 ?side2 ?side3 ?side4 A22.out).mono ?_);(case side1=>exact CW (Kd.R_reads' HO612.out).2.2);(case side2=>exact (Kd.R_reads' HO612.out).2.1);(case side3=>exact CW (Kd.R_reads' HO616.out).2.2);(case side4=>exact (Kd.R_reads' HO616.out).2.1);rintro e w' ⟨rfl,⟨nd,rfl⟩⟩;exact DW)|(go_at_call 12;(with_reducible refine (laws_uSame.calls k _ _ t609 _ _ t613 true _ ?side1 ?side2 ?side3 ?side4 A22.out).mono ?_);(case side1=>exact CW (Kd.R_reads' HO612.out).2.2);(case side2=>exact (Kd.R_reads' HO612.out).2.1);(case side3=>exact CW (Kd.R_reads' HO616.out).2.2);(case side4=>exact (Kd.R_reads' HO616.out).2.1);rintro e w' ⟨rfl,⟨nd,rfl⟩⟩;obtain ⟨Ao31,co31,eo31⟩:=Kd.S_slice HO624.out;subst eo31;obtain ⟨Ao32,co32,eo32⟩:=Kd.S_slice HO628.out;subst eo32)|(go_at_call 13;(with_reducible refine (laws_uSameRows.calls k _ _ t621 _ _ t625 true _ ?side1 ?side2 ?side3 ?side4 A27.out).mono ?_);(case side1=>exact CW (Kd.S_reads' HO624.out).2.2);(case side2=>exact (Kd.S_reads' HO624.out).2.1);(case side3=>exact CW (Kd.S_reads' HO628.out).2.2);(case side4=>exact (Kd.S_reads' HO628.out).2.1);rintro e w' ⟨rfl,⟨nd,rfl⟩⟩;(try exact DW)));repeat (go_quiet (first|(go_at_call 12;(with_reducible refine (laws_uSame.calls k _ _ t609 _ _ t613 true _ ?side1 ?side2 ?side3 ?side4 A22.out).mono ?_);(case side1=>exact CW (Kd.R_reads' HO612.out).2.2);(case side2=>exact (Kd.R_reads' HO612.out).2.1);(case side3=>exact CW (Kd.R_reads' HO616.out).2.2);(case side4=>exact (Kd.R_reads' HO616.out).2.1);rintro e w' ⟨rfl,⟨nd,rfl⟩⟩;exact DW)|(go_at_call 12;(with_reducible refine (laws_uSame.calls k _ _ t609 _ _ t613 true _ ?side1 ?side2 ?side3 ?side4 A22.out).mono ?_);(case side1=>exact CW (Kd.R_reads' HO612.out).2.2);(case side2=>exact (Kd.R_reads' HO612.out).2.1);(case side3=>exact CW (Kd.R_reads' HO616.out).2.2);(case side4=>exact (Kd.R_reads' HO616.out).2.1);rintro e w' ⟨rfl,⟨nd,rfl⟩⟩;obtain ⟨Ao31,co31,eo31⟩:=Kd.S_slice HO624.out;subst eo31;obtain ⟨Ao32,co32,eo32⟩:=Kd.S_slice HO628.out;subst eo32)|(go_at_call 13;(with_reducible refine (laws_uSameRows.calls k _ _ t621 _ _ t625 true _ ?side1 ?side2 ?side3 ?side4 A27.out).mono ?_);(case side1=>exact CW (Kd.S_reads' HO624.out).2.2);(case side2=>exact (Kd.S_reads' HO624.out).2.1);(case side3=>exact CW (Kd.S_reads' HO628.out).2.2);(case side4=>exact (Kd.S_reads' HO628.out).2.1);rintro e w' ⟨rfl,⟨nd,rfl⟩⟩;(try exact DW)));try go_wp2_with (first|(go_at_call 12;(with_reducible refine (laws_uSame.calls k _ _ t609 _ _ t613 true _ ?side1 ?side2 ?side3 ?side4 A22.out).mono ?_);(case side1=>exact CW (Kd.R_reads' HO612.out).2.2);(case side2=>exact (Kd.R_reads' HO612.out).2.1);(case side3=>exact CW (Kd.R_reads' HO616.out).2.2);(case side4=>exact (Kd.R_reads' HO616.out).2.1);rintro e w' ⟨rfl,⟨nd,rfl⟩⟩;exact DW)|(go_at_call 12;(with_reducible refine (laws_uSame.calls k _ _ t609 _ _ t613 true _ ?side1 ?side2 ?side3 ?side4 A22.out).mono ?_);(case side1=>exact CW (Kd.R_reads' HO612.out).2.2);(case side2=>exact (Kd.R_reads' HO612.out).2.1);(case side3=>exact CW (Kd.R_reads' HO616.out).2.2);(case side4=>exact (Kd.R_reads' HO616.out).2.1);rintro e w' ⟨rfl,⟨nd,rfl⟩⟩;obtain ⟨Ao31,co31,eo31⟩:=Kd.S_slice HO624.out;subst eo31;obtain ⟨Ao32,co32,eo32⟩:=Kd.S_slice HO628.out;subst eo32)|(go_at_call 13;(with_reducible refine (laws_uSameRows.calls k _ _ t621 _ _ t625 true _ (CW (Kd.S_reads' HO624.out).2.2) ((Kd.S_reads' HO624.out).2.1) (CW (Kd.S_reads' HO628.out).2.2) ((Kd.S_reads' HO628.out).2.1) A27.out).mono ?_);rintro e w' ⟨rfl,⟨nd,rfl⟩⟩;(try exact DW))))
   go_meet
   case rel=>exact ⟨_,((t610 != t617)),RF,H',⟨by first|omega|exact Nat.le_refl _⟩,⟨by (with_reducible repeat (first|apply Kd.R_alloc|apply Kd.R_drewN|apply Kd.R_drew));exact Kd.R_mono HO612.out (fun _ hk=>trivial)⟩,⟨by (with_reducible repeat (first|apply Kd.S_alloc|apply Kd.S_drewN|apply Kd.S_drew));exact Kd.S_mono HO624.out (fun _ hk=>hk.1.1.2)⟩,⟨BB⟩⟩
  case rest=>as_aux_lemma =>
   clear HC12;try clear c1
   try clear c2
   try clear p2
   try clear c3
   try clear c4
   try clear p6
   try clear c21
   try clear c21b0
   try clear c21b1
   try clear c21b2
   try clear c23
   try clear c24
   try clear c24b0
   try clear c24b1
   try clear c24b2
   try clear c25
   try clear c25b0
   try clear c25b1
   try clear c25b2
   try clear c26
   try clear c26b0
   try clear c26b1
   try clear c26b2
   try clear c28
   obtain ⟨kq,x123_11,rfl,HA,HJ11,HO_7,HO_15,HB⟩:=hcut;cases kq with
   | zero=>exact absurd HA.out (by simp [laws_FnOppositeEdgesFound.j0])
   | succ kj11 =>
    have H:=HA.out;clear HA;simp only [laws_FnOppositeEdgesFound.j0] at H;replace H:=IE H;obtain ⟨rfl,H⟩:=H;have HC34:=AM H;clear H;go_upto_if 124 with (fail)
    repeat (go_quiet (fail);go_upto_if 124 with (fail))
    go_cut [] from 124 to 124 (fun wc=>∃ (kq : Nat),Aside0 (laws_FnOppositeEdgesFound.j2 kq l1 = some r)∧Aside0 (kq ≤ kj11)∧Aside0 (Below w.heap.size w wc))
    case first=>as_aux_lemma =>
     have H:=HC34.out;clear HC34;by_cases c35 : t610 = true
     ·subst c35;replace H:=IP H;have H':=AM H;clear H;obtain ⟨Ao36,co36,eo36⟩:=Kd.S_slice HO_15.out;subst eo36;go_wp2;repeat (go_quiet (fail);try go_wp2)
      go_loopg [19,127] kj11 (fun kq v19 v127 w'=>∃ (x19_2 : Bool) (x127_2 : Int),v19 = .bool x19_2∧v127 = .int .i64 x127_2∧Aside0 (laws_FnOppositeEdgesFound.l0 kq l1 t609 x19_2 t621 (t621.length : Int) x127_2 = some r)∧Aside0 (kq ≤ kj11)∧Aside0 (Kd.R (Kd.int .i64) 3 w' w.heap.size (fun _=>True) v611 t609)∧Aside0 (Kd.S (Kd.slice 3 (Kd.int .i64)) 24 w' w.heap.size (fun k_=>some k_≠(v611 : Value).ownBlock) (.slice Ao36 t621.length co36) t621)∧Aside0 (Below w.heap.size w w'))
      case atStart=>exact ⟨(false),(0),RF,RF,H',⟨Nat.le_refl _⟩,⟨KR HO_7⟩,⟨KS HO_15⟩,⟨BB⟩⟩
      case round=>as_aux_lemma =>
       clear H';try clear c1
       try clear c2
       try clear p2
       try clear c3
       try clear c4
       try clear p6
       try clear c21
       try clear c21b0
       try clear c21b1
       try clear c21b2
       try clear c23
       try clear c24
       try clear c24b0
       try clear c24b1
       try clear c24b2
       try clear c25
       try clear c25b0
       try clear c25b1
       try clear c25b2
       try clear c26
       try clear c26b0
       try clear c26b1
       try clear c26b2
       try clear c28
       try clear c33
       try clear c35
       try clear p2
       try clear p6
       obtain ⟨x19_2,x127_2,rfl,rfl,HA,HK2,HO_7,HO_125,HB⟩:=hrel;cases gk with
       | zero=>exact absurd HA.out (by simp [laws_FnOppositeEdgesFound.l0])
       | succ k2 =>
        have H:=HA.out;clear HA;simp only [laws_FnOppositeEdgesFound.l0] at H;by_cases c37 : x127_2 < (t621.length : Int)
        ·rw [if_pos c37] at H;have c37b0:=DT c37;clear c37
         (first|rw [c37b0]|(simp only [i64_w,i32_w];rw [c37b0])|skip);replace H:=IC H;obtain ⟨c38,H⟩:=H;have c38b0:=DT c38;clear c38;replace H:=IC H;obtain ⟨c39,H⟩:=H;have c39b0:=DT c39;clear c39;by_cases c40 : x19_2 = true
         ·subst c40;replace H:=IP H;have H':=AM H;clear H;have p631 : 0 ≤ (x127_2 : Int):=OD AS;have q631 : x127_2 < (t621.length : Int):=OD AS;obtain ⟨ad631,A631_0,c631_0,e631,hx631_0,hl631_0,hi631_0⟩:=at_L2 (Kd.S_reads' HO_125.out).2.2 x127_2 p631 q631;cases e631;obtain ⟨ce631,hce631,hMe631,hcc631⟩:=Kd.S_get HO_125.out [] x127_2 p631 (by first|exact q631|exact OD AS|(have e_:=(Kd.S_reads' HO_125.out).1;omega));obtain ⟨ve631_0,rfl,ge631_0⟩:=hMe631;have hv631_0:=hcc631 0 _ rfl;rw [Nat.add_zero,show ((Kd.slice 3 (Kd.int .i64))).sz = 1 from rfl,Nat.mul_one] at hv631_0;replace hv631_0:=Option.some.inj (hv631_0.symm.trans hx631_0);rw [hv631_0] at ge631_0;have HL631_0:=AM (show Kd.R (Kd.int .i64) 3 _ _ _ _ (rd_L2 t621 x127_2) from ge631_0);clear hv631_0 ge631_0;clear hcc631 hce631;have HR631_0:=AM hi631_0;have HC631_0:=AM hl631_0;clear hi631_0 hl631_0;replace p631:=ET p631;replace q631:=ET q631;go_wp2;repeat (go_quiet (fail);try go_wp2)
          go_roundg k2
          case measure=>have:=HJ11.out;have:=HK2.out;omega
          case rel=>exact ⟨(true),(wrap64 (x127_2 + 1)),RF,RF,H',⟨by have:=HJ11.out;have:=HK2.out;omega⟩,⟨KR HO_7⟩,⟨KS HO_125⟩,⟨BB⟩⟩
         ·replace c40:=NF c40;subst c40;replace H:=IN H;replace H:=EA H;obtain ⟨t632,A41,H⟩:=H;have H':=AM H;clear H;have p631 : 0 ≤ (x127_2 : Int):=OD AS;have q631 : x127_2 < (t621.length : Int):=OD AS;obtain ⟨ad631,A631_0,c631_0,e631,hx631_0,hl631_0,hi631_0⟩:=at_L2 (Kd.S_reads' HO_125.out).2.2 x127_2 p631 q631;cases e631;obtain ⟨ce631,hce631,hMe631,hcc631⟩:=Kd.S_get HO_125.out [] x127_2 p631 (by first|exact q631|exact OD AS|(have e_:=(Kd.S_reads' HO_125.out).1;omega));obtain ⟨ve631_0,rfl,ge631_0⟩:=hMe631;have hv631_0:=hcc631 0 _ rfl;rw [Nat.add_zero,show ((Kd.slice 3 (Kd.int .i64))).sz = 1 from rfl,Nat.mul_one] at hv631_0;replace hv631_0:=Option.some.inj (hv631_0.symm.trans hx631_0);rw [hv631_0] at ge631_0;have HL631_0:=AM (show Kd.R (Kd.int .i64) 3 _ _ _ _ (rd_L2 t621 x127_2) from ge631_0);clear hv631_0 ge631_0;clear hcc631 hce631;have HR631_0:=AM hi631_0;have HC631_0:=AM hl631_0;clear hi631_0 hl631_0;replace p631:=ET p631;replace q631:=ET q631;obtain ⟨Ao42,co42,eo42⟩:=Kd.R_slice HO_7.out;subst eo42;go_wp2_with (first|(go_at_call 12;(with_reducible refine (laws_uSame.calls k2 _ _ (rd_L2 t621 x127_2) _ _ t609 t632 _ ?side1 ?side2 ?side3 ?side4 A41.out).mono ?_);(case side1=>exact CX HR631_0);(case side2=>exact HC631_0.out);(case side3=>exact CW (Kd.R_reads' HO_7.out).2.2);(case side4=>exact (Kd.R_reads' HO_7.out).2.1);rintro e w' ⟨rfl,⟨nd,rfl⟩⟩;(try exact DW)));repeat (go_quiet (first|(go_at_call 12;(with_reducible refine (laws_uSame.calls k2 _ _ (rd_L2 t621 x127_2) _ _ t609 t632 _ ?side1 ?side2 ?side3 ?side4 A41.out).mono ?_);(case side1=>exact CX HR631_0);(case side2=>exact HC631_0.out);(case side3=>exact CW (Kd.R_reads' HO_7.out).2.2);(case side4=>exact (Kd.R_reads' HO_7.out).2.1);rintro e w' ⟨rfl,⟨nd,rfl⟩⟩;(try exact DW)));try go_wp2_with (first|(go_at_call 12;(with_reducible refine (laws_uSame.calls k2 _ _ (rd_L2 t621 x127_2) _ _ t609 t632 _ (CX HR631_0) HC631_0.out (CW (Kd.R_reads' HO_7.out).2.2) ((Kd.R_reads' HO_7.out).2.1) A41.out).mono ?_);rintro e w' ⟨rfl,⟨nd,rfl⟩⟩;(try exact DW))))
          go_roundg k2
          case measure=>have:=HJ11.out;have:=HK2.out;omega
          case rel=>exact ⟨(t632),(wrap64 (x127_2 + 1)),RF,RF,H',⟨by have:=HJ11.out;have:=HK2.out;omega⟩,⟨KR HO_7⟩,⟨KS HO_125⟩,⟨BB⟩⟩
        ·rw [if_neg c37] at H;have c37b0:=DF c37;try (have c37bl:=c37b0;rw [hl631_0] at c37bl)
         clear c37
         (first|rw [c37b0]|(simp only [i64_w,i32_w];rw [c37b0])|skip);replace H:=IC H;obtain ⟨rfl,H⟩:=H;have H':=AM H;clear H;go_wp2;repeat (go_quiet (fail);try go_wp2)
         go_meet
         case rel=>exact ⟨_,H',⟨by have:=HJ11.out;have:=HK2.out;first|omega|exact Nat.le_refl _⟩,⟨BB⟩⟩
     ·replace c35:=NF c35;subst c35;replace H:=IN H;have H':=AM H;clear H;go_wp2;repeat (go_quiet (fail);try go_wp2)
      go_meet
      case rel=>exact ⟨_,H',⟨by have:=HJ11.out;first|omega|exact Nat.le_refl _⟩,⟨BB⟩⟩
    case rest=>as_aux_lemma =>
     clear HC34;try clear c1
     try clear c2
     try clear p2
     try clear c3
     try clear c4
     try clear c6
     try clear p6
     try clear q6
     try clear hx6
     try clear c21
     try clear c21b0
     try clear c21b1
     try clear c21b2
     try clear c23
     try clear c24
     try clear c24b0
     try clear c24b1
     try clear c24b2
     try clear c25
     try clear c25b0
     try clear c25b1
     try clear c25b2
     try clear c26
     try clear c26b0
     try clear c26b1
     try clear c26b2
     try clear c28
     try clear c33
     try clear c35
     try clear c37
     try clear c37b0
     try clear c38
     try clear c38b0
     try clear c39
     try clear c39b0
     try clear c40
     try clear c43
     try clear hx631_0
     try clear p2
     try clear p6
     try clear p631
     try clear q631
     obtain ⟨kq,HA,HJ33,HB⟩:=hcut;cases kq with
     | zero=>exact absurd HA.out (by simp [laws_FnOppositeEdgesFound.j2])
     | succ kj33 =>
      have H:=HA.out;clear HA;simp only [laws_FnOppositeEdgesFound.j2] at H;replace H:=EA H;obtain ⟨⟨t633,t634,t635,t636⟩,A44,H⟩:=H;try dsimp only at H
      replace H:=EA H;obtain ⟨⟨t639,t640,t641⟩,A45,H⟩:=H;try dsimp only at H
      replace H:=EA H;obtain ⟨⟨t646,t647,t648⟩,A46,H⟩:=H;try dsimp only at H
      replace H:=EA H;obtain ⟨⟨t653,t654⟩,A47,H⟩:=H;try dsimp only at H
      replace H:=EA H;obtain ⟨⟨t657,t658⟩,A48,H⟩:=H;try dsimp only at H
      have HC49:=AM H;clear H;go_upto_region 26 with (first|(go_at_call 14;(with_reducible refine (spec_DrawSquareWalk.calls kj33 _ _ l1 t633 t634 t635 t636 _ ?side1 ?side2 A44.out).mono ?_);(case side1=>exact CW (Kd.C_below HR1.out HB.out));(case side2=>exact HC1.out);rintro e w50 ⟨v637,rfl,ho0,hb⟩;have HO638:=AM (Kd.R_lower ho0 (BZ BB));replace HB:=HS hb;try clear hb ho0;obtain ⟨Ao51,co51,eo51⟩:=Kd.R_slice HO638.out;subst eo51)|(go_at_call 15;(with_reducible refine (impl_SquareWalk.calls kj33 t633 _ _ t634 t635 t636 t639 t640 t641 _ ?side1 ?side2 A45.out).mono ?_);(case side1=>exact CW (Kd.R_reads' HO638.out).2.2);(case side2=>exact (Kd.R_reads' HO638.out).2.1);rintro e w52 ⟨v642,v644,rfl,ho0,ho1,hb⟩;have HO643:=AM (Kd.R_lower (Kd.R_new' ho0 (Kd.R_lt (KR HO638))) (BZ BB));have HO645:=AM (Kd.R_lower (Kd.R_new' ho1 (Kd.R_lt (KR HO638))) (BZ BB));replace HO638:=AM (Kd.R_mono (Kd.R_told (Kd.R_told (Kd.R_old (KR HO638) hb) (Kd.R_base ho0)) (Kd.R_base ho1)) (fun _ h_=>h_.1));replace HB:=HS hb;try clear hb ho0 ho1)|(go_at_call 16;(with_reducible refine (spec_SquareWalk.calls kj33 t633 _ _ t634 t635 t636 t646 t647 t648 _ ?side1 ?side2 A46.out).mono ?_);(case side1=>exact CW (Kd.R_reads' HO638.out).2.2);(case side2=>exact (Kd.R_reads' HO638.out).2.1);rintro e w53 ⟨v649,v651,rfl,ho0,ho1,hb⟩;have HO650:=AM (Kd.R_lower (Kd.R_new' (Kd.R_new' (Kd.R_new' ho0 (Kd.R_lt (KR HO638))) (Kd.R_lt (KR HO643))) (Kd.R_lt (KR HO645))) (BZ BB));have HO652:=AM (Kd.R_lower (Kd.R_new' (Kd.R_new' (Kd.R_new' ho1 (Kd.R_lt (KR HO638))) (Kd.R_lt (KR HO643))) (Kd.R_lt (KR HO645))) (BZ BB));replace HO638:=AM (Kd.R_mono (Kd.R_told (Kd.R_told (Kd.R_old (KR HO638) hb) (Kd.R_base ho0)) (Kd.R_base ho1)) (fun _ h_=>h_.1));replace HO643:=AM (Kd.R_mono (Kd.R_told (Kd.R_told (Kd.R_old (KR HO643) hb) (Kd.R_base ho0)) (Kd.R_base ho1)) (fun _ h_=>h_.1));replace HO645:=AM (Kd.R_mono (Kd.R_told (Kd.R_told (Kd.R_old (KR HO645) hb) (Kd.R_base ho0)) (Kd.R_base ho1)) (fun _ h_=>h_.1));replace HB:=HS hb;try clear hb ho0 ho1)|(go_at_call 17;(with_reducible refine (impl_SquareDoors.calls kj33 t633 _ _ t634 t653 t654 _ ?side1 ?side2 A47.out).mono ?_);(case side1=>exact CW (Kd.R_reads' HO638.out).2.2);(case side2=>exact (Kd.R_reads' HO638.out).2.1);rintro e w54 ⟨v655,rfl,ho0,hb⟩;have HO656:=AM (Kd.S_lower (Kd.S_new' (Kd.S_new' (Kd.S_new' (Kd.S_new' (Kd.S_new' ho0 (Kd.R_lt (KR HO638))) (Kd.R_lt (KR HO643))) (Kd.R_lt (KR HO645))) (Kd.R_lt (KR HO650))) (Kd.R_lt (KR HO652))) (BZ BB));replace HO638:=RB HO638 hb;replace HO643:=RB HO643 hb;replace HO645:=RB HO645 hb;replace HO650:=RB HO650 hb;replace HO652:=RB HO652 hb;replace HB:=HS hb;try clear hb ho0)|(go_at_call 18;(with_reducible refine (spec_SquareDoors.calls kj33 t633 _ _ t634 t657 t658 _ ?side1 ?side2 A48.out).mono ?_);(case side1=>exact CW (Kd.R_reads' HO638.out).2.2);(case side2=>exact (Kd.R_reads' HO638.out).2.1);rintro e w55 ⟨v659,rfl,ho0,hb⟩;have HO660:=AM (Kd.S_lower (Kd.S_new' (Kd.S_new' (Kd.S_new' (Kd.S_new' (Kd.S_new' (Kd.S_new' ho0 (Kd.R_lt (KR HO638))) (Kd.R_lt (KR HO643))) (Kd.R_lt (KR HO645))) (Kd.R_lt (KR HO650))) (Kd.R_lt (KR HO652))) (Kd.S_lt (KS HO656))) (BZ BB));replace HO638:=RB HO638 hb;replace HO643:=RB HO643 hb;replace HO645:=RB HO645 hb;replace HO650:=RB HO650 hb;replace HO652:=RB HO652 hb;replace HO656:=AM (Kd.S_elder' (KS HO656) (Kd.S_base ho0) hb);replace HB:=HS hb;try clear hb ho0))
      repeat (go_quiet (first|(go_at_call 14;(with_reducible refine (spec_DrawSquareWalk.calls kj33 _ _ l1 t633 t634 t635 t636 _ ?side1 ?side2 A44.out).mono ?_);(case side1=>exact CW (Kd.C_below HR1.out HB.out));(case side2=>exact HC1.out);rintro e w50 ⟨v637,rfl,ho0,hb⟩;have HO638:=AM (Kd.R_lower ho0 (BZ BB));replace HB:=HS hb;try clear hb ho0;obtain ⟨Ao51,co51,eo51⟩:=Kd.R_slice HO638.out;subst eo51)|(go_at_call 15;(with_reducible refine (impl_SquareWalk.calls kj33 t633 _ _ t634 t635 t636 t639 t640 t641 _ ?side1 ?side2 A45.out).mono ?_);(case side1=>exact CW (Kd.R_reads' HO638.out).2.2);(case side2=>exact (Kd.R_reads' HO638.out).2.1);rintro e w52 ⟨v642,v644,rfl,ho0,ho1,hb⟩;have HO643:=AM (Kd.R_lower (Kd.R_new' ho0 (Kd.R_lt (KR HO638))) (BZ BB));have HO645:=AM (Kd.R_lower (Kd.R_new' ho1 (Kd.R_lt (KR HO638))) (BZ BB));replace HO638:=AM (Kd.R_mono (Kd.R_told (Kd.R_told (Kd.R_old (KR HO638) hb) (Kd.R_base ho0)) (Kd.R_base ho1)) (fun _ h_=>h_.1));replace HB:=HS hb;try clear hb ho0 ho1)|(go_at_call 16;(with_reducible refine (spec_SquareWalk.calls kj33 t633 _ _ t634 t635 t636 t646 t647 t648 _ ?side1 ?side2 A46.out).mono ?_);(case side1=>exact CW (Kd.R_reads' HO638.out).2.2);(case side2=>exact (Kd.R_reads' HO638.out).2.1);rintro e w53 ⟨v649,v651,rfl,ho0,ho1,hb⟩;have HO650:=AM (Kd.R_lower (Kd.R_new' (Kd.R_new' (Kd.R_new' ho0 (Kd.R_lt (KR HO638))) (Kd.R_lt (KR HO643))) (Kd.R_lt (KR HO645))) (BZ BB));have HO652:=AM (Kd.R_lower (Kd.R_new' (Kd.R_new' (Kd.R_new' ho1 (Kd.R_lt (KR HO638))) (Kd.R_lt (KR HO643))) (Kd.R_lt (KR HO645))) (BZ BB));replace HO638:=AM (Kd.R_mono (Kd.R_told (Kd.R_told (Kd.R_old (KR HO638) hb) (Kd.R_base ho0)) (Kd.R_base ho1)) (fun _ h_=>h_.1));replace HO643:=AM (Kd.R_mono (Kd.R_told (Kd.R_told (Kd.R_old (KR HO643) hb) (Kd.R_base ho0)) (Kd.R_base ho1)) (fun _ h_=>h_.1));replace HO645:=AM (Kd.R_mono (Kd.R_told (Kd.R_told (Kd.R_old (KR HO645) hb) (Kd.R_base ho0)) (Kd.R_base ho1)) (fun _ h_=>h_.1));replace HB:=HS hb;try clear hb ho0 ho1)|(go_at_call 17;(with_reducible refine (impl_SquareDoors.calls kj33 t633 _ _ t634 t653 t654 _ ?side1 ?side2 A47.out).mono ?_);(case side1=>exact CW (Kd.R_reads' HO638.out).2.2);(case side2=>exact (Kd.R_reads' HO638.out).2.1);rintro e w54 ⟨v655,rfl,ho0,hb⟩;have HO656:=AM (Kd.S_lower (Kd.S_new' (Kd.S_new' (Kd.S_new' (Kd.S_new' (Kd.S_new' ho0 (Kd.R_lt (KR HO638))) (Kd.R_lt (KR HO643))) (Kd.R_lt (KR HO645))) (Kd.R_lt (KR HO650))) (Kd.R_lt (KR HO652))) (BZ BB));replace HO638:=RB HO638 hb;replace HO643:=RB HO643 hb;replace HO645:=RB HO645 hb;replace HO650:=RB HO650 hb;replace HO652:=RB HO652 hb;replace HB:=HS hb;try clear hb ho0)|(go_at_call 18;(with_reducible refine (spec_SquareDoors.calls kj33 t633 _ _ t634 t657 t658 _ ?side1 ?side2 A48.out).mono ?_);(case side1=>exact CW (Kd.R_reads' HO638.out).2.2);(case side2=>exact (Kd.R_reads' HO638.out).2.1);rintro e w55 ⟨v659,rfl,ho0,hb⟩;have HO660:=AM (Kd.S_lower (Kd.S_new' (Kd.S_new' (Kd.S_new' (Kd.S_new' (Kd.S_new' (Kd.S_new' ho0 (Kd.R_lt (KR HO638))) (Kd.R_lt (KR HO643))) (Kd.R_lt (KR HO645))) (Kd.R_lt (KR HO650))) (Kd.R_lt (KR HO652))) (Kd.S_lt (KS HO656))) (BZ BB));replace HO638:=RB HO638 hb;replace HO643:=RB HO643 hb;replace HO645:=RB HO645 hb;replace HO650:=RB HO650 hb;replace HO652:=RB HO652 hb;replace HO656:=AM (Kd.S_elder' (KS HO656) (Kd.S_base ho0) hb);replace HB:=HS hb;try clear hb ho0));go_upto_region 26 with (first|(go_at_call 14;(with_reducible refine (spec_DrawSquareWalk.calls kj33 _ _ l1 t633 t634 t635 t636 _ ?side1 ?side2 A44.out).mono ?_);(case side1=>exact CW (Kd.C_below HR1.out HB.out));(case side2=>exact HC1.out);rintro e w50 ⟨v637,rfl,ho0,hb⟩;have HO638:=AM (Kd.R_lower ho0 (BZ BB));replace HB:=HS hb;try clear hb ho0;obtain ⟨Ao51,co51,eo51⟩:=Kd.R_slice HO638.out;subst eo51)|(go_at_call 15;(with_reducible refine (impl_SquareWalk.calls kj33 t633 _ _ t634 t635 t636 t639 t640 t641 _ ?side1 ?side2 A45.out).mono ?_);(case side1=>exact CW (Kd.R_reads' HO638.out).2.2);(case side2=>exact (Kd.R_reads' HO638.out).2.1);rintro e w52 ⟨v642,v644,rfl,ho0,ho1,hb⟩;have HO643:=AM (Kd.R_lower (Kd.R_new' ho0 (Kd.R_lt (KR HO638))) (BZ BB));have HO645:=AM (Kd.R_lower (Kd.R_new' ho1 (Kd.R_lt (KR HO638))) (BZ BB));replace HO638:=AM (Kd.R_mono (Kd.R_told (Kd.R_told (Kd.R_old (KR HO638) hb) (Kd.R_base ho0)) (Kd.R_base ho1)) (fun _ h_=>h_.1));replace HB:=HS hb;try clear hb ho0 ho1)|(go_at_call 16;(with_reducible refine (spec_SquareWalk.calls kj33 t633 _ _ t634 t635 t636 t646 t647 t648 _ ?side1 ?side2 A46.out).mono ?_);(case side1=>exact CW (Kd.R_reads' HO638.out).2.2);(case side2=>exact (Kd.R_reads' HO638.out).2.1);rintro e w53 ⟨v649,v651,rfl,ho0,ho1,hb⟩;have HO650:=AM (Kd.R_lower (Kd.R_new' (Kd.R_new' (Kd.R_new' ho0 (Kd.R_lt (KR HO638))) (Kd.R_lt (KR HO643))) (Kd.R_lt (KR HO645))) (BZ BB));have HO652:=AM (Kd.R_lower (Kd.R_new' (Kd.R_new' (Kd.R_new' ho1 (Kd.R_lt (KR HO638))) (Kd.R_lt (KR HO643))) (Kd.R_lt (KR HO645))) (BZ BB));replace HO638:=AM (Kd.R_mono (Kd.R_told (Kd.R_told (Kd.R_old (KR HO638) hb) (Kd.R_base ho0)) (Kd.R_base ho1)) (fun _ h_=>h_.1));replace HO643:=AM (Kd.R_mono (Kd.R_told (Kd.R_told (Kd.R_old (KR HO643) hb) (Kd.R_base ho0)) (Kd.R_base ho1)) (fun _ h_=>h_.1));replace HO645:=AM (Kd.R_mono (Kd.R_told (Kd.R_told (Kd.R_old (KR HO645) hb) (Kd.R_base ho0)) (Kd.R_base ho1)) (fun _ h_=>h_.1));replace HB:=HS hb;try clear hb ho0 ho1)|(go_at_call 17;(with_reducible refine (impl_SquareDoors.calls kj33 t633 _ _ t634 t653 t654 _ ?side1 ?side2 A47.out).mono ?_);(case side1=>exact CW (Kd.R_reads' HO638.out).2.2);(case side2=>exact (Kd.R_reads' HO638.out).2.1);rintro e w54 ⟨v655,rfl,ho0,hb⟩;have HO656:=AM (Kd.S_lower (Kd.S_new' (Kd.S_new' (Kd.S_new' (Kd.S_new' (Kd.S_new' ho0 (Kd.R_lt (KR HO638))) (Kd.R_lt (KR HO643))) (Kd.R_lt (KR HO645))) (Kd.R_lt (KR HO650))) (Kd.R_lt (KR HO652))) (BZ BB));replace HO638:=RB HO638 hb;replace HO643:=RB HO643 hb;replace HO645:=RB HO645 hb;replace HO650:=RB HO650 hb;replace HO652:=RB HO652 hb;replace HB:=HS hb;try clear hb ho0)|(go_at_call 18;(with_reducible refine (spec_SquareDoors.calls kj33 t633 _ _ t634 t657 t658 _ ?side1 ?side2 A48.out).mono ?_);(case side1=>exact CW (Kd.R_reads' HO638.out).2.2);(case side2=>exact (Kd.R_reads' HO638.out).2.1);rintro e w55 ⟨v659,rfl,ho0,hb⟩;have HO660:=AM (Kd.S_lower (Kd.S_new' (Kd.S_new' (Kd.S_new' (Kd.S_new' (Kd.S_new' (Kd.S_new' ho0 (Kd.R_lt (KR HO638))) (Kd.R_lt (KR HO643))) (Kd.R_lt (KR HO645))) (Kd.R_lt (KR HO650))) (Kd.R_lt (KR HO652))) (Kd.S_lt (KS HO656))) (BZ BB));replace HO638:=RB HO638 hb;replace HO643:=RB HO643 hb;replace HO645:=RB HO645 hb;replace HO650:=RB HO650 hb;replace HO652:=RB HO652 hb;replace HO656:=AM (Kd.S_elder' (KS HO656) (Kd.S_base ho0) hb);replace HB:=HS hb;try clear hb ho0)))
      (try simp only [Act.put,List.setIfInBounds_toArray,List.set_cons_zero,List.set_cons_succ]);go_cut [209] from 125 to 209 (fun v209 wc=>∃ (kq : Nat) (x209_48 : Bool),v209 = .bool x209_48∧Aside0 (laws_FnOppositeEdgesFound.j3 kq t633 t634 t639 t640 t641 x209_48 = some r)∧Aside0 (kq ≤ kj33)∧Aside0 (Kd.R (Kd.int .i64) 3 wc w.heap.size (fun k_=>some k_≠(v642 : Value).ownBlock∧some k_≠(v644 : Value).ownBlock) (.slice Ao51 t634.length co51) t634)∧Aside0 (Kd.R (Kd.int .i64) 3 wc w.heap.size (fun k_=>some k_≠((.slice Ao51 t634.length co51) : Value).ownBlock∧some k_≠(v644 : Value).ownBlock) v642 t639)∧Aside0 (Kd.R (Kd.int .i64) 3 wc w.heap.size (fun k_=>some k_≠((.slice Ao51 t634.length co51) : Value).ownBlock∧some k_≠(v642 : Value).ownBlock) v644 t640)∧Aside0 (Below w.heap.size w wc))
      case first=>as_aux_lemma =>
       have H:=HC49.out;clear HC49;replace H:=ID H;obtain ⟨c56,H⟩:=H;have c56b0 : (t641 != t648) = false:=by simpa using c56
       (try (have c56b1 : decide (t641 = t648) = true:=by simpa using c56))
       (try (have c56b2 : (t641 == t648) = true:=by simpa using c56));clear c56
       (first|rw [c56b0]|(simp only [i64_w,i32_w];rw [c56b0])|skip);replace H:=EA H;obtain ⟨t661,A57,H⟩:=H;replace H:=IC H;obtain ⟨rfl,H⟩:=H;replace H:=EA H;obtain ⟨t662,A59,H⟩:=H;replace H:=IC H;obtain ⟨rfl,H⟩:=H;replace H:=ID H;obtain ⟨c61,H⟩:=H;have c61b0 : (t654 != t658) = false:=by simpa using c61
       (try (have c61b1 : decide (t654 = t658) = true:=by simpa using c61))
       (try (have c61b2 : (t654 == t658) = true:=by simpa using c61));clear c61;replace H:=EA H;obtain ⟨t663,A62,H⟩:=H;replace H:=IC H;obtain ⟨rfl,H⟩:=H;by_cases c64 : t641 = true
       ·subst c64;replace H:=IP H;have H':=AM H;clear H;obtain ⟨Ao65,co65,eo65⟩:=Kd.R_slice HO643.out;subst eo65;obtain ⟨Ao66,co66,eo66⟩:=Kd.R_slice HO650.out;subst eo66;go_wp2_with (first|(go_at_call 12;(with_reducible refine (laws_uSame.calls kj33 _ _ t639 _ _ t646 true _ ?side1 ?side2 ?side3 ?side4 A57.out).mono ?_);(case side1=>exact CW (Kd.R_reads' HO643.out).2.2);(case side2=>exact (Kd.R_reads' HO643.out).2.1);(case side3=>exact CW (Kd.R_reads' HO650.out).2.2);(case side4=>exact (Kd.R_reads' HO650.out).2.1);rintro e w' ⟨rfl,⟨nd,rfl⟩⟩;exact DW)|(go_at_call 12;(with_reducible refine (laws_uSame.calls kj33 _ _ t639 _ _ t646 true _ ?side1 ?side2 ?side3 ?side4 A57.out).mono ?_);(case side1=>exact CW (Kd.R_reads' HO643.out).2.2);(case side2=>exact (Kd.R_reads' HO643.out).2.1);(case side3=>exact CW (Kd.R_reads' HO650.out).2.2);(case side4=>exact (Kd.R_reads' HO650.out).2.1);rintro e w' ⟨rfl,⟨nd,rfl⟩⟩;obtain ⟨Ao67,co67,eo67⟩:=Kd.R_slice HO645.out;subst eo67;obtain ⟨Ao68,co68,eo68⟩:=Kd.R_slice HO652.out;subst eo68)|(go_at_call 12;(with_reducible refine (laws_uSame.calls kj33 _ _ t640 _ _ t647 true _ ?side1 ?side2 ?side3 ?side4 A59.out).mono ?_);(case side1=>exact CW (Kd.R_reads' HO645.out).2.2);(case side2=>exact (Kd.R_reads' HO645.out).2.1);(case side3=>exact CW (Kd.R_reads' HO652.out).2.2);(case side4=>exact (Kd.R_reads' HO652.out).2.1);rintro e w' ⟨rfl,⟨nd,rfl⟩⟩;exact DW)|(go_at_call 12;(with_reducible refine (laws_uSame.calls kj33 _ _ t640 _ _ t647 true _ ?side1 ?side2 ?side3 ?side4 A59.out).mono ?_);(case side1=>exact CW (Kd.R_reads' HO645.out).2.2);(case side2=>exact (Kd.R_reads' HO645.out).2.1);(case side3=>exact CW (Kd.R_reads' HO652.out).2.2);(case side4=>exact (Kd.R_reads' HO652.out).2.1);rintro e w' ⟨rfl,⟨nd,rfl⟩⟩;obtain ⟨Ao69,co69,eo69⟩:=Kd.S_slice HO656.out;subst eo69;obtain ⟨Ao70,co70,eo70⟩:=Kd.S_slice HO660.out;subst eo70)|(go_at_call 13;(with_reducible refine (laws_uSameRows.calls kj33 _ _ t653 _ _ t657 true _ ?side1 ?side2 ?side3 ?side4 A62.out).mono ?_);(case side1=>exact CW (Kd.S_reads' HO656.out).2.2);(case side2=>exact (Kd.S_reads' HO656.out).2.1);(case side3=>exact CW (Kd.S_reads' HO660.out).2.2);(case side4=>exact (Kd.S_reads' HO660.out).2.1);rintro e w' ⟨rfl,⟨nd,rfl⟩⟩;(try exact DW)));repeat (go_quiet (first|(go_at_call 12;(with_reducible refine (laws_uSame.calls kj33 _ _ t639 _ _ t646 true _ ?side1 ?side2 ?side3 ?side4 A57.out).mono ?_);(case side1=>exact CW (Kd.R_reads' HO643.out).2.2);(case side2=>exact (Kd.R_reads' HO643.out).2.1);(case side3=>exact CW (Kd.R_reads' HO650.out).2.2);(case side4=>exact (Kd.R_reads' HO650.out).2.1);rintro e w' ⟨rfl,⟨nd,rfl⟩⟩;exact DW)|(go_at_call 12;(with_reducible refine (laws_uSame.calls kj33 _ _ t639 _ _ t646 true _ ?side1 ?side2 ?side3 ?side4 A57.out).mono ?_);(case side1=>exact CW (Kd.R_reads' HO643.out).2.2);(case side2=>exact (Kd.R_reads' HO643.out).2.1);(case side3=>exact CW (Kd.R_reads' HO650.out).2.2);(case side4=>exact (Kd.R_reads' HO650.out).2.1);rintro e w' ⟨rfl,⟨nd,rfl⟩⟩;obtain ⟨Ao67,co67,eo67⟩:=Kd.R_slice HO645.out;subst eo67;obtain ⟨Ao68,co68,eo68⟩:=Kd.R_slice HO652.out;subst eo68)|(go_at_call 12;(with_reducible refine (laws_uSame.calls kj33 _ _ t640 _ _ t647 true _ ?side1 ?side2 ?side3 ?side4 A59.out).mono ?_);(case side1=>exact CW (Kd.R_reads' HO645.out).2.2);(case side2=>exact (Kd.R_reads' HO645.out).2.1);(case side3=>exact CW (Kd.R_reads' HO652.out).2.2);(case side4=>exact (Kd.R_reads' HO652.out).2.1);rintro e w' ⟨rfl,⟨nd,rfl⟩⟩;exact DW)|(go_at_call 12;(with_reducible refine (laws_uSame.calls kj33 _ _ t640 _ _ t647 true _ ?side1 ?side2 ?side3 ?side4 A59.out).mono ?_);(case side1=>exact CW (Kd.R_reads' HO645.out).2.2);(case side2=>exact (Kd.R_reads' HO645.out).2.1);(case side3=>exact CW (Kd.R_reads' HO652.out).2.2);(case side4=>exact (Kd.R_reads' HO652.out).2.1);rintro e w' ⟨rfl,⟨nd,rfl⟩⟩;obtain ⟨Ao69,co69,eo69⟩:=Kd.S_slice HO656.out;subst eo69;obtain ⟨Ao70,co70,eo70⟩:=Kd.S_slice HO660.out;subst eo70)|(go_at_call 13;(with_reducible refine (laws_uSameRows.calls kj33 _ _ t653 _ _ t657 true _ ?side1 ?side2 ?side3 ?side4 A62.out).mono ?_);(case side1=>exact CW (Kd.S_reads' HO656.out).2.2);(case side2=>exact (Kd.S_reads' HO656.out).2.1);(case side3=>exact CW (Kd.S_reads' HO660.out).2.2);(case side4=>exact (Kd.S_reads' HO660.out).2.1);rintro e w' ⟨rfl,⟨nd,rfl⟩⟩;(try exact DW)));try go_wp2_with (first|(go_at_call 12;(with_reducible refine (laws_uSame.calls kj33 _ _ t639 _ _ t646 true _ ?side1 ?side2 ?side3 ?side4 A57.out).mono ?_);(case side1=>exact CW (Kd.R_reads' HO643.out).2.2);(case side2=>exact (Kd.R_reads' HO643.out).2.1);(case side3=>exact CW (Kd.R_reads' HO650.out).2.2);(case side4=>exact (Kd.R_reads' HO650.out).2.1);rintro e w' ⟨rfl,⟨nd,rfl⟩⟩;exact DW)|(go_at_call 12;(with_reducible refine (laws_uSame.calls kj33 _ _ t639 _ _ t646 true _ ?side1 ?side2 ?side3 ?side4 A57.out).mono ?_);(case side1=>exact CW (Kd.R_reads' HO643.out).2.2);(case side2=>exact (Kd.R_reads' HO643.out).2.1);(case side3=>exact CW (Kd.R_reads' HO650.out).2.2);(case side4=>exact (Kd.R_reads' HO650.out).2.1);rintro e w' ⟨rfl,⟨nd,rfl⟩⟩;obtain ⟨Ao67,co67,eo67⟩:=Kd.R_slice HO645.out;subst eo67;obtain ⟨Ao68,co68,eo68⟩:=Kd.R_slice HO652.out;subst eo68)|(go_at_call 12;(with_reducible refine (laws_uSame.calls kj33 _ _ t640 _ _ t647 true _ ?side1 ?side2 ?side3 ?side4 A59.out).mono ?_);(case side1=>exact CW (Kd.R_reads' HO645.out).2.2);(case side2=>exact (Kd.R_reads' HO645.out).2.1);(case side3=>exact CW (Kd.R_reads' HO652.out).2.2);(case side4=>exact (Kd.R_reads' HO652.out).2.1);rintro e w' ⟨rfl,⟨nd,rfl⟩⟩;exact DW)|(go_at_call 12;(with_reducible refine (laws_uSame.calls kj33 _ _ t640 _ _ t647 true _ ?side1 ?side2 ?side3 ?side4 A59.out).mono ?_);(case side1=>exact CW (Kd.R_reads' HO645.out).2.2);(case side2=>exact (Kd.R_reads' HO645.out).2.1);(case side3=>exact CW (Kd.R_reads' HO652.out).2.2);(case side4=>exact (Kd.R_reads' HO652.out).2.1);rintro e w' ⟨rfl,⟨nd,rfl⟩⟩;obtain ⟨Ao69,co69,eo69⟩:=Kd.S_slice HO656.out;subst eo69;obtain ⟨Ao70,co70,eo70⟩:=Kd.S_slice HO660.out;subst eo70)|(go_at_call 13;(with_reducible refine (laws_uSameRows.calls kj33 _ _ t653 _ _ t657 true _ (CW (Kd.S_reads' HO656.out).2.2) ((Kd.S_reads' HO656.out).2.1) (CW (Kd.S_reads' HO660.out).2.2) ((Kd.S_reads' HO660.out).2.1) A62.out).mono ?_);rintro e w' ⟨rfl,⟨nd,rfl⟩⟩;(try exact DW))))
        go_meet
        case rel=>exact ⟨_,(!t654),RF,H',⟨by have:=HJ11.out;have:=HJ33.out;first|omega|exact Nat.le_refl _⟩,⟨by (with_reducible repeat (first|apply Kd.R_alloc|apply Kd.R_drewN|apply Kd.R_drew));exact Kd.R_mono HO638.out (fun _ hk=>⟨hk.1.1.1.2,hk.1.1.2⟩)⟩,⟨by (with_reducible repeat (first|apply Kd.R_alloc|apply Kd.R_drewN|apply Kd.R_drew));exact Kd.R_mono HO643.out (fun _ hk=>⟨hk.1.1.2,hk.1.1.1⟩)⟩,⟨by (with_reducible repeat (first|apply Kd.R_alloc|apply Kd.R_drewN|apply Kd.R_drew));exact Kd.R_mono HO645.out (fun _ hk=>⟨hk.1.1.2,hk.1.1.1⟩)⟩,⟨BB⟩⟩
       ·replace c64:=NF c64;subst c64;replace H:=IN H;have H':=AM H;clear H;obtain ⟨Ao71,co71,eo71⟩:=Kd.R_slice HO643.out;subst eo71;obtain ⟨Ao72,co72,eo72⟩:=Kd.R_slice HO650.out;subst eo72;go_wp2_with (first|(go_at_call 12;(with_reducible refine (laws_uSame.calls kj33 _ _ t639 _ _ t646 true _ ?side1 ?side2 ?side3 ?side4 A57.out).mono ?_);(case side1=>exact CW (Kd.R_reads' HO643.out).2.2);(case side2=>exact (Kd.R_reads' HO643.out).2.1);(case side3=>exact CW (Kd.R_reads' HO650.out).2.2);(case side4=>exact (Kd.R_reads' HO650.out).2.1);rintro e w' ⟨rfl,⟨nd,rfl⟩⟩;exact DW)|(go_at_call 12;(with_reducible refine (laws_uSame.calls kj33 _ _ t639 _ _ t646 true _ ?side1 ?side2 ?side3 ?side4 A57.out).mono ?_);(case side1=>exact CW (Kd.R_reads' HO643.out).2.2);(case side2=>exact (Kd.R_reads' HO643.out).2.1);(case side3=>exact CW (Kd.R_reads' HO650.out).2.2);(case side4=>exact (Kd.R_reads' HO650.out).2.1);rintro e w' ⟨rfl,⟨nd,rfl⟩⟩;obtain ⟨Ao73,co73,eo73⟩:=Kd.R_slice HO645.out;subst eo73;obtain ⟨Ao74,co74,eo74⟩:=Kd.R_slice HO652.out;subst eo74)|(go_at_call 12;(with_reducible refine (laws_uSame.calls kj33 _ _ t640 _ _ t647 true _ ?side1 ?side2 ?side3 ?side4 A59.out).mono ?_);(case side1=>exact CW (Kd.R_reads' HO645.out).2.2);(case side2=>exact (Kd.R_reads' HO645.out).2.1);(case side3=>exact CW (Kd.R_reads' HO652.out).2.2);(case side4=>exact (Kd.R_reads' HO652.out).2.1);rintro e w' ⟨rfl,⟨nd,rfl⟩⟩;exact DW)|(go_at_call 12;(with_reducible refine (laws_uSame.calls kj33 _ _ t640 _ _ t647 true _ ?side1 ?side2 ?side3 ?side4 A59.out).mono ?_);(case side1=>exact CW (Kd.R_reads' HO645.out).2.2);(case side2=>exact (Kd.R_reads' HO645.out).2.1);(case side3=>exact CW (Kd.R_reads' HO652.out).2.2);(case side4=>exact (Kd.R_reads' HO652.out).2.1);rintro e w' ⟨rfl,⟨nd,rfl⟩⟩;obtain ⟨Ao75,co75,eo75⟩:=Kd.S_slice HO656.out;subst eo75;obtain ⟨Ao76,co76,eo76⟩:=Kd.S_slice HO660.out;subst eo76)|(go_at_call 13;(with_reducible refine (laws_uSameRows.calls kj33 _ _ t653 _ _ t657 true _ ?side1 ?side2 ?side3 ?side4 A62.out).mono ?_);(case side1=>exact CW (Kd.S_reads' HO656.out).2.2);(case side2=>exact (Kd.S_reads' HO656.out).2.1);(case side3=>exact CW (Kd.S_reads' HO660.out).2.2);(case side4=>exact (Kd.S_reads' HO660.out).2.1);rintro e w' ⟨rfl,⟨nd,rfl⟩⟩;(try exact DW)));repeat (go_quiet (first|(go_at_call 12;(with_reducible refine (laws_uSame.calls kj33 _ _ t639 _ _ t646 true _ ?side1 ?side2 ?side3 ?side4 A57.out).mono ?_);(case side1=>exact CW (Kd.R_reads' HO643.out).2.2);(case side2=>exact (Kd.R_reads' HO643.out).2.1);(case side3=>exact CW (Kd.R_reads' HO650.out).2.2);(case side4=>exact (Kd.R_reads' HO650.out).2.1);rintro e w' ⟨rfl,⟨nd,rfl⟩⟩;exact DW)|(go_at_call 12;(with_reducible refine (laws_uSame.calls kj33 _ _ t639 _ _ t646 true _ ?side1 ?side2 ?side3 ?side4 A57.out).mono ?_);(case side1=>exact CW (Kd.R_reads' HO643.out).2.2);(case side2=>exact (Kd.R_reads' HO643.out).2.1);(case side3=>exact CW (Kd.R_reads' HO650.out).2.2);(case side4=>exact (Kd.R_reads' HO650.out).2.1);rintro e w' ⟨rfl,⟨nd,rfl⟩⟩;obtain ⟨Ao73,co73,eo73⟩:=Kd.R_slice HO645.out;subst eo73;obtain ⟨Ao74,co74,eo74⟩:=Kd.R_slice HO652.out;subst eo74)|(go_at_call 12;(with_reducible refine (laws_uSame.calls kj33 _ _ t640 _ _ t647 true _ ?side1 ?side2 ?side3 ?side4 A59.out).mono ?_);(case side1=>exact CW (Kd.R_reads' HO645.out).2.2);(case side2=>exact (Kd.R_reads' HO645.out).2.1);(case side3=>exact CW (Kd.R_reads' HO652.out).2.2);(case side4=>exact (Kd.R_reads' HO652.out).2.1);rintro e w' ⟨rfl,⟨nd,rfl⟩⟩;exact DW)|(go_at_call 12;(with_reducible refine (laws_uSame.calls kj33 _ _ t640 _ _ t647 true _ ?side1 ?side2 ?side3 ?side4 A59.out).mono ?_);(case side1=>exact CW (Kd.R_reads' HO645.out).2.2);(case side2=>exact (Kd.R_reads' HO645.out).2.1);(case side3=>exact CW (Kd.R_reads' HO652.out).2.2);(case side4=>exact (Kd.R_reads' HO652.out).2.1);rintro e w' ⟨rfl,⟨nd,rfl⟩⟩;obtain ⟨Ao75,co75,eo75⟩:=Kd.S_slice HO656.out;subst eo75;obtain ⟨Ao76,co76,eo76⟩:=Kd.S_slice HO660.out;subst eo76)|(go_at_call 13;(with_reducible refine (laws_uSameRows.calls kj33 _ _ t653 _ _ t657 true _ ?side1 ?side2 ?side3 ?side4 A62.out).mono ?_);(case side1=>exact CW (Kd.S_reads' HO656.out).2.2);(case side2=>exact (Kd.S_reads' HO656.out).2.1);(case side3=>exact CW (Kd.S_reads' HO660.out).2.2);(case side4=>exact (Kd.S_reads' HO660.out).2.1);rintro e w' ⟨rfl,⟨nd,rfl⟩⟩;(try exact DW)));try go_wp2_with (first|(go_at_call 12;(with_reducible refine (laws_uSame.calls kj33 _ _ t639 _ _ t646 true _ ?side1 ?side2 ?side3 ?side4 A57.out).mono ?_);(case side1=>exact CW (Kd.R_reads' HO643.out).2.2);(case side2=>exact (Kd.R_reads' HO643.out).2.1);(case side3=>exact CW (Kd.R_reads' HO650.out).2.2);(case side4=>exact (Kd.R_reads' HO650.out).2.1);rintro e w' ⟨rfl,⟨nd,rfl⟩⟩;exact DW)|(go_at_call 12;(with_reducible refine (laws_uSame.calls kj33 _ _ t639 _ _ t646 true _ ?side1 ?side2 ?side3 ?side4 A57.out).mono ?_);(case side1=>exact CW (Kd.R_reads' HO643.out).2.2);(case side2=>exact (Kd.R_reads' HO643.out).2.1);(case side3=>exact CW (Kd.R_reads' HO650.out).2.2);(case side4=>exact (Kd.R_reads' HO650.out).2.1);rintro e w' ⟨rfl,⟨nd,rfl⟩⟩;obtain ⟨Ao73,co73,eo73⟩:=Kd.R_slice HO645.out;subst eo73;obtain ⟨Ao74,co74,eo74⟩:=Kd.R_slice HO652.out;subst eo74)|(go_at_call 12;(with_reducible refine (laws_uSame.calls kj33 _ _ t640 _ _ t647 true _ ?side1 ?side2 ?side3 ?side4 A59.out).mono ?_);(case side1=>exact CW (Kd.R_reads' HO645.out).2.2);(case side2=>exact (Kd.R_reads' HO645.out).2.1);(case side3=>exact CW (Kd.R_reads' HO652.out).2.2);(case side4=>exact (Kd.R_reads' HO652.out).2.1);rintro e w' ⟨rfl,⟨nd,rfl⟩⟩;exact DW)|(go_at_call 12;(with_reducible refine (laws_uSame.calls kj33 _ _ t640 _ _ t647 true _ ?side1 ?side2 ?side3 ?side4 A59.out).mono ?_);(case side1=>exact CW (Kd.R_reads' HO645.out).2.2);(case side2=>exact (Kd.R_reads' HO645.out).2.1);(case side3=>exact CW (Kd.R_reads' HO652.out).2.2);(case side4=>exact (Kd.R_reads' HO652.out).2.1);rintro e w' ⟨rfl,⟨nd,rfl⟩⟩;obtain ⟨Ao75,co75,eo75⟩:=Kd.S_slice HO656.out;subst eo75;obtain ⟨Ao76,co76,eo76⟩:=Kd.S_slice HO660.out;subst eo76)|(go_at_call 13;(with_reducible refine (laws_uSameRows.calls kj33 _ _ t653 _ _ t657 true _ (CW (Kd.S_reads' HO656.out).2.2) ((Kd.S_reads' HO656.out).2.1) (CW (Kd.S_reads' HO660.out).2.2) ((Kd.S_reads' HO660.out).2.1) A62.out).mono ?_);rintro e w' ⟨rfl,⟨nd,rfl⟩⟩;(try exact DW))))
        go_meet
        case rel=>exact ⟨_,(false),RF,H',⟨by have:=HJ11.out;have:=HJ33.out;first|omega|exact Nat.le_refl _⟩,⟨by (with_reducible repeat (first|apply Kd.R_alloc|apply Kd.R_drewN|apply Kd.R_drew));exact Kd.R_mono HO638.out (fun _ hk=>⟨hk.1.1.1.2,hk.1.1.2⟩)⟩,⟨by (with_reducible repeat (first|apply Kd.R_alloc|apply Kd.R_drewN|apply Kd.R_drew));exact Kd.R_mono HO643.out (fun _ hk=>⟨hk.1.1.2,hk.1.1.1⟩)⟩,⟨by (with_reducible repeat (first|apply Kd.R_alloc|apply Kd.R_drewN|apply Kd.R_drew));exact Kd.R_mono HO645.out (fun _ hk=>⟨hk.1.1.2,hk.1.1.1⟩)⟩,⟨BB⟩⟩
      case rest=>as_aux_lemma =>
       clear HC49;try clear c1
       try clear c2
       try clear p2
       try clear c3
       try clear c4
       try clear c5
       try clear c6
       try clear p6
       try clear q6
       try clear hx6
       try clear c21
       try clear c21b0
       try clear c21b1
       try clear c21b2
       try clear c23
       try clear c24
       try clear c24b0
       try clear c24b1
       try clear c24b2
       try clear c25
       try clear c25b0
       try clear c25b1
       try clear c25b2
       try clear c26
       try clear c26b0
       try clear c26b1
       try clear c26b2
       try clear c28
       try clear c33
       try clear c35
       try clear c37
       try clear c37b0
       try clear c38
       try clear c38b0
       try clear c39
       try clear c39b0
       try clear c40
       try clear c43
       try clear c56
       try clear c56b0
       try clear c56b1
       try clear c56b2
       try clear c58
       try clear c60
       try clear c61
       try clear c61b0
       try clear c61b1
       try clear c61b2
       try clear c63
       try clear p63
       try clear q63
       try clear hx63
       try clear c64
       try clear p64
       try clear hx631_0
       try clear p2
       try clear p6
       try clear p631
       try clear q6
       try clear q631
       obtain ⟨kq,x209_48,rfl,HA,HJ48,HO_23,HO_26,HO_27,HB⟩:=hcut;cases kq with
       | zero=>exact absurd HA.out (by simp [laws_FnOppositeEdgesFound.j3])
       | succ kj48 =>
        have H:=HA.out;clear HA;simp only [laws_FnOppositeEdgesFound.j3] at H;replace H:=IE H;obtain ⟨rfl,H⟩:=H;by_cases c78 : t641 = true
        ·subst c78;replace H:=IP H;replace H:=EA H;obtain ⟨⟨t664,t665⟩,A79,H⟩:=H;try dsimp only at H
         have HC80:=AM H;clear H;go_upto_region 30 with (first|(go_at_call 19;(with_reducible refine (impl_SquareCells.calls kj48 t633 t664 t665 _ A79.out).mono ?_);rintro e w81 ⟨v666,rfl,ho0,hb⟩;have HO667:=AM (Kd.S_lower (Kd.S_new' (Kd.S_new' (Kd.S_new' ho0 (Kd.R_lt (KR HO_23))) (Kd.R_lt (KR HO_26))) (Kd.R_lt (KR HO_27))) (BZ BB));replace HO_23:=RB HO_23 hb;replace HO_26:=RB HO_26 hb;replace HO_27:=RB HO_27 hb;replace HB:=HS hb;try clear hb ho0))
         repeat (go_quiet (first|(go_at_call 19;(with_reducible refine (impl_SquareCells.calls kj48 t633 t664 t665 _ A79.out).mono ?_);rintro e w81 ⟨v666,rfl,ho0,hb⟩;have HO667:=AM (Kd.S_lower (Kd.S_new' (Kd.S_new' (Kd.S_new' ho0 (Kd.R_lt (KR HO_23))) (Kd.R_lt (KR HO_26))) (Kd.R_lt (KR HO_27))) (BZ BB));replace HO_23:=RB HO_23 hb;replace HO_26:=RB HO_26 hb;replace HO_27:=RB HO_27 hb;replace HB:=HS hb;try clear hb ho0));go_upto_region 30 with (first|(go_at_call 19;(with_reducible refine (impl_SquareCells.calls kj48 t633 t664 t665 _ A79.out).mono ?_);rintro e w81 ⟨v666,rfl,ho0,hb⟩;have HO667:=AM (Kd.S_lower (Kd.S_new' (Kd.S_new' (Kd.S_new' ho0 (Kd.R_lt (KR HO_23))) (Kd.R_lt (KR HO_26))) (Kd.R_lt (KR HO_27))) (BZ BB));replace HO_23:=RB HO_23 hb;replace HO_26:=RB HO_26 hb;replace HO_27:=RB HO_27 hb;replace HB:=HS hb;try clear hb ho0)))
         (try simp only [Act.put,List.setIfInBounds_toArray,List.set_cons_zero,List.set_cons_succ]);go_cut [222] from 210 to 222 (fun v222 wc=>∃ (kq : Nat) (x222_79 : Bool),v222 = .bool x222_79∧Aside0 (laws_FnOppositeEdgesFound.j4 kq t634 t639 t640 t664 x222_79 = some r)∧Aside0 (kq ≤ kj48)∧Aside0 (Kd.R (Kd.int .i64) 3 wc w.heap.size (fun k_=>some k_≠(v642 : Value).ownBlock∧some k_≠(v644 : Value).ownBlock) (.slice Ao51 t634.length co51) t634)∧Aside0 (Kd.R (Kd.int .i64) 3 wc w.heap.size (fun k_=>some k_≠((.slice Ao51 t634.length co51) : Value).ownBlock∧some k_≠(v644 : Value).ownBlock) v642 t639)∧Aside0 (Kd.R (Kd.int .i64) 3 wc w.heap.size (fun k_=>some k_≠((.slice Ao51 t634.length co51) : Value).ownBlock∧some k_≠(v642 : Value).ownBlock) v644 t640)∧Aside0 (Kd.S (Kd.slice 3 (Kd.int .i64)) 24 wc w.heap.size (fun k_=>some k_≠((.slice Ao51 t634.length co51) : Value).ownBlock∧some k_≠(v642 : Value).ownBlock∧some k_≠(v644 : Value).ownBlock) v666 t664)∧Aside0 (Below w.heap.size w wc))
         case first=>as_aux_lemma =>
          have H:=HC80.out;clear HC80;replace H:=IC H;obtain ⟨rfl,H⟩:=H;have H':=AM H;clear H;obtain ⟨Ao83,co83,eo83⟩:=Kd.R_slice HO_26.out;subst eo83;go_wp2;repeat (go_quiet (fail);try go_wp2)
          go_meet
          case rel=>exact ⟨_,(((t639.length : Int) == 0)),RF,H',⟨by have:=HJ11.out;have:=HJ33.out;have:=HJ48.out;first|omega|exact Nat.le_refl _⟩,⟨KR HO_23⟩,⟨KR HO_26⟩,⟨KR HO_27⟩,⟨by (with_reducible repeat (first|apply Kd.S_alloc|apply Kd.S_drewN|apply Kd.S_drew));exact Kd.S_mono HO667.out (fun _ hk=>⟨hk.1.1.2,⟨hk.1.2,hk.2⟩⟩)⟩,⟨BB⟩⟩
         case rest=>as_aux_lemma =>
          clear HC80;try clear c1
          try clear c2
          try clear p2
          try clear c3
          try clear c4
          try clear c5
          try clear c6
          try clear p6
          try clear q6
          try clear hx6
          try clear c7
          try clear c8
          try clear c21
          try clear c21b0
          try clear c21b1
          try clear c21b2
          try clear c23
          try clear c24
          try clear c24b0
          try clear c24b1
          try clear c24b2
          try clear c25
          try clear c25b0
          try clear c25b1
          try clear c25b2
          try clear c26
          try clear c26b0
          try clear c26b1
          try clear c26b2
          try clear c28
          try clear c33
          try clear c35
          try clear c37
          try clear c37b0
          try clear c38
          try clear c38b0
          try clear c39
          try clear c39b0
          try clear c40
          try clear c43
          try clear c56
          try clear c56b0
          try clear c56b1
          try clear c56b2
          try clear c58
          try clear c60
          try clear c61
          try clear c61b0
          try clear c61b1
          try clear c61b2
          try clear c63
          try clear p63
          try clear q63
          try clear hx63
          try clear c64
          try clear p64
          try clear c77
          try clear c78
          try clear c82
          try clear hx631_0
          try clear p2
          try clear p6
          try clear p63
          try clear p631
          try clear p64
          try clear q6
          try clear q63
          try clear q631
          obtain ⟨kq,x222_79,rfl,HA,HJ79,HO_23,HO_26,HO_27,HO_36,HB⟩:=hcut;cases kq with
          | zero=>exact absurd HA.out (by simp [laws_FnOppositeEdgesFound.j4])
          | succ kj79 =>
           have H:=HA.out;clear HA;simp only [laws_FnOppositeEdgesFound.j4] at H;replace H:=IE H;obtain ⟨rfl,H⟩:=H;have H':=AM H;clear H;obtain ⟨Ao85,co85,eo85⟩:=Kd.R_slice HO_26.out;subst eo85;go_wp2;repeat (go_quiet (fail);try go_wp2)
           go_loopg [225] kj79 (fun kq v225 w'=>∃ (x225_5 : Int),v225 = .int .i64 x225_5∧Aside0 (laws_FnOppositeEdgesFound.l1 kq t634 t639 t640 t664 t639 (t639.length : Int) x225_5 = some r)∧Aside0 (kq ≤ kj79)∧Aside0 (Kd.R (Kd.int .i64) 3 w' w.heap.size (fun k_=>some k_≠((.slice Ao85 t639.length co85) : Value).ownBlock∧some k_≠(v644 : Value).ownBlock∧some k_≠((.slice Ao85 t639.length co85) : Value).ownBlock) (.slice Ao51 t634.length co51) t634)∧Aside0 (Kd.R (Kd.int .i64) 3 w' w.heap.size (fun k_=>some k_≠((.slice Ao51 t634.length co51) : Value).ownBlock∧some k_≠(v644 : Value).ownBlock) (.slice Ao85 t639.length co85) t639)∧Aside0 (Kd.R (Kd.int .i64) 3 w' w.heap.size (fun k_=>some k_≠((.slice Ao51 t634.length co51) : Value).ownBlock∧some k_≠((.slice Ao85 t639.length co85) : Value).ownBlock∧some k_≠((.slice Ao85 t639.length co85) : Value).ownBlock) v644 t640)∧Aside0 (Kd.S (Kd.slice 3 (Kd.int .i64)) 24 w' w.heap.size (fun k_=>some k_≠((.slice Ao51 t634.length co51) : Value).ownBlock∧some k_≠((.slice Ao85 t639.length co85) : Value).ownBlock∧some k_≠(v644 : Value).ownBlock∧some k_≠((.slice Ao85 t639.length co85) : Value).ownBlock) v666 t664)∧Aside0 (Kd.R (Kd.int .i64) 3 w' w.heap.size (fun k_=>some k_≠((.slice Ao51 t634.length co51) : Value).ownBlock∧some k_≠(v644 : Value).ownBlock) (.slice Ao85 t639.length co85) t639)∧Aside0 (Below w.heap.size w w'))
           case atStart=>exact ⟨(0),RF,H',⟨Nat.le_refl _⟩,⟨by (with_reducible repeat (first|apply Kd.R_alloc|apply Kd.R_drewN|apply Kd.R_drew));exact Kd.R_mono HO_23.out (fun _ hk=>⟨hk.1,⟨hk.2,hk.1⟩⟩)⟩,⟨KR HO_26⟩,⟨by (with_reducible repeat (first|apply Kd.R_alloc|apply Kd.R_drewN|apply Kd.R_drew));exact Kd.R_mono HO_27.out (fun _ hk=>⟨hk.1,⟨hk.2,hk.2⟩⟩)⟩,⟨by (with_reducible repeat (first|apply Kd.S_alloc|apply Kd.S_drewN|apply Kd.S_drew));exact Kd.S_mono HO_36.out (fun _ hk=>⟨hk.1,⟨hk.2.1,⟨hk.2.2,hk.2.1⟩⟩⟩)⟩,⟨KR HO_26⟩,⟨BB⟩⟩
           case round=>as_aux_lemma =>
            clear H';try clear c1
            try clear c2
            try clear p2
            try clear c3
            try clear c4
            try clear c5
            try clear c6
            try clear p6
            try clear q6
            try clear hx6
            try clear c7
            try clear c8
            try clear c21
            try clear c21b0
            try clear c21b1
            try clear c21b2
            try clear c23
            try clear c24
            try clear c24b0
            try clear c24b1
            try clear c24b2
            try clear c25
            try clear c25b0
            try clear c25b1
            try clear c25b2
            try clear c26
            try clear c26b0
            try clear c26b1
            try clear c26b2
            try clear c28
            try clear c33
            try clear c35
            try clear c37
            try clear c37b0
            try clear c38
            try clear c38b0
            try clear c39
            try clear c39b0
            try clear c40
            try clear c43
            try clear c56
            try clear c56b0
            try clear c56b1
            try clear c56b2
            try clear c58
            try clear c60
            try clear c61
            try clear c61b0
            try clear c61b1
            try clear c61b2
            try clear c63
            try clear p63
            try clear q63
            try clear hx63
            try clear c64
            try clear p64
            try clear c77
            try clear c78
            try clear c82
            try clear c84
            try clear hx631_0
            try clear p2
            try clear p6
            try clear p63
            try clear p631
            try clear p64
            try clear q6
            try clear q63
            try clear q631
            obtain ⟨x225_5,rfl,HA,HK5,HO_23,HO_26,HO_27,HO_36,HO_223,HB⟩:=hrel;cases gk with
            | zero=>exact absurd HA.out (by simp [laws_FnOppositeEdgesFound.l1])
            | succ k5 =>
             have H:=HA.out;clear HA;simp only [laws_FnOppositeEdgesFound.l1] at H;by_cases c86 : x225_5 < (t639.length : Int)
             ·rw [if_pos c86] at H;have c86b0:=DT c86;clear c86;replace H:=IC H;obtain ⟨c87,H⟩:=H;have c87b0:=DT c87;clear c87;replace H:=IC H;obtain ⟨c88,H⟩:=H;have c88b0:=DT c88;clear c88;replace H:=IC H;obtain ⟨c89,H⟩:=H;have c89b0:=DT c89;clear c89;replace H:=IC H;obtain ⟨c90,H⟩:=H;have c90b0:=DT c90;clear c90;have H':=AM H;clear H;have p672 : 0 ≤ (x225_5 : Int):=OD AS;have q672 : x225_5 < (t639.length : Int):=OD AS;obtain ⟨ad672,e672,hx672_0⟩:=Kd.at_int (Kd.R_reads' HO_223.out).2.2 x225_5 p672 q672;cases e672;replace p672:=ET p672;replace q672:=ET q672;obtain ⟨Ao91,co91,eo91⟩:=Kd.S_slice HO_36.out;subst eo91;have p673 : 0 ≤ ((rd t639 x225_5) : Int):=OD AS;have q673 : (rd t639 x225_5) < (t664.length : Int):=OD AS;obtain ⟨ad673,A673_0,c673_0,e673,hx673_0,hl673_0,hi673_0⟩:=at_L2 (Kd.S_reads' HO_36.out).2.2 (rd t639 x225_5) p673 q673;cases e673;obtain ⟨ce673,hce673,hMe673,hcc673⟩:=Kd.S_get HO_36.out [] (rd t639 x225_5) p673 (by first|exact q673|exact OD AS|(have e_:=(Kd.S_reads' HO_36.out).1;omega));obtain ⟨ve673_0,rfl,ge673_0⟩:=hMe673;have hv673_0:=hcc673 0 _ rfl;rw [Nat.add_zero,show ((Kd.slice 3 (Kd.int .i64))).sz = 1 from rfl,Nat.mul_one] at hv673_0;replace hv673_0:=Option.some.inj (hv673_0.symm.trans hx673_0);rw [hv673_0] at ge673_0;have HL673_0:=AM (show Kd.R (Kd.int .i64) 3 _ _ _ _ (rd_L2 t664 (rd t639 x225_5)) from ge673_0);clear hv673_0 ge673_0;clear hcc673 hce673;have HR673_0:=AM hi673_0;have HC673_0:=AM hl673_0;clear hi673_0 hl673_0;replace p673:=ET p673;replace q673:=ET q673;go_wp2;repeat (go_quiet (fail);try go_wp2)
              go_loopg [40,235] k5 (fun kq v40 v235 w'=>∃ (x40_6 : Bool) (x235_6 : Int),v40 = .bool x40_6∧v235 = .int .i64 x235_6∧Aside0 (laws_FnOppositeEdgesFound.l2 kq t634 t639 t640 t664 x225_5 (rd t639 x225_5) x40_6 t639 (t639.length : Int) x225_5 (rd_L2 t664 (rd t639 x225_5)) ((rd_L2 t664 (rd t639 x225_5)).length : Int) x235_6 = some r)∧Aside0 (kq ≤ k5)∧Aside0 (Kd.R (Kd.int .i64) 3 w' w.heap.size (fun k_=>some k_≠((.slice (some ad672) t639.length co85) : Value).ownBlock∧some k_≠(v644 : Value).ownBlock∧some k_≠((.slice (some ad672) t639.length co85) : Value).ownBlock) (.slice Ao51 t634.length co51) t634)∧Aside0 (Kd.R (Kd.int .i64) 3 w' w.heap.size (fun k_=>some k_≠((.slice Ao51 t634.length co51) : Value).ownBlock∧some k_≠(v644 : Value).ownBlock) (.slice (some ad672) t639.length co85) t639)∧Aside0 (Kd.R (Kd.int .i64) 3 w' w.heap.size (fun k_=>some k_≠((.slice Ao51 t634.length co51) : Value).ownBlock∧some k_≠((.slice (some ad672) t639.length co85) : Value).ownBlock∧some k_≠((.slice (some ad672) t639.length co85) : Value).ownBlock) v644 t640)∧Aside0 (Kd.S (Kd.slice 3 (Kd.int .i64)) 24 w' w.heap.size (fun k_=>some k_≠((.slice Ao51 t634.length co51) : Value).ownBlock∧some k_≠((.slice (some ad672) t639.length co85) : Value).ownBlock∧some k_≠(v644 : Value).ownBlock∧some k_≠((.slice (some ad672) t639.length co85) : Value).ownBlock) (.slice (some ad673) t664.length co91) t664)∧Aside0 (Kd.R (Kd.int .i64) 3 w' w.heap.size (fun k_=>some k_≠((.slice Ao51 t634.length co51) : Value).ownBlock∧some k_≠(v644 : Value).ownBlock) (.slice (some ad672) t639.length co85) t639)∧Aside0 (Kd.C (Kd.int .i64) w' A673_0 (rd_L2 t664 (rd t639 x225_5)).length (rd_L2 t664 (rd t639 x225_5)))∧Aside0 (Below w.heap.size w w'))
              case atStart=>exact ⟨(false),(0),RF,RF,H',⟨Nat.le_refl _⟩,⟨KR HO_23⟩,⟨KR HO_26⟩,⟨KR HO_27⟩,⟨KS HO_36⟩,⟨KR HO_223⟩,⟨CX HR673_0⟩,⟨BB⟩⟩
              case round=>as_aux_lemma =>
               clear H';try clear c1
               try clear c2
               try clear p2
               try clear c3
               try clear c4
               try clear c5
               try clear c6
               try clear p6
               try clear q6
               try clear hx6
               try clear c7
               try clear c8
               try clear c9
               try clear c21
               try clear c21b0
               try clear c21b1
               try clear c21b2
               try clear c23
               try clear c24
               try clear c24b0
               try clear c24b1
               try clear c24b2
               try clear c25
               try clear c25b0
               try clear c25b1
               try clear c25b2
               try clear c26
               try clear c26b0
               try clear c26b1
               try clear c26b2
               try clear c28
               try clear c33
               try clear c35
               try clear c37
               try clear c37b0
               try clear c38
               try clear c38b0
               try clear c39
               try clear c39b0
               try clear c40
               try clear c43
               try clear c56
               try clear c56b0
               try clear c56b1
               try clear c56b2
               try clear c58
               try clear c60
               try clear c61
               try clear c61b0
               try clear c61b1
               try clear c61b2
               try clear c63
               try clear p63
               try clear q63
               try clear hx63
               try clear c64
               try clear p64
               try clear c67
               try clear p67
               try clear q67
               try clear hx67
               try clear c77
               try clear c78
               try clear c82
               try clear c84
               try clear c86
               try clear c86b0
               try clear c87
               try clear c87b0
               try clear c88
               try clear c88b0
               try clear c89
               try clear c89b0
               try clear c90
               try clear c90b0
               try clear hx631_0
               try clear hx672_0
               try clear hx673_0
               try clear p2
               try clear p6
               try clear p63
               try clear p631
               try clear p64
               try clear p672
               try clear p673
               try clear q6
               try clear q63
               try clear q631
               try clear q672
               try clear q673
               obtain ⟨x40_6,x235_6,rfl,rfl,HA,HK6,HO_23,HO_26,HO_27,HO_36,HO_223,HR673_0,HB⟩:=hrel;cases gk with
               | zero=>exact absurd HA.out (by simp [laws_FnOppositeEdgesFound.l2])
               | succ k6 =>
                have H:=HA.out;clear HA;simp only [laws_FnOppositeEdgesFound.l2] at H;by_cases c92 : x235_6 < ((rd_L2 t664 (rd t639 x225_5)).length : Int)
                ·rw [if_pos c92] at H;have c92b0:=DT c92;clear c92;replace H:=IC H;obtain ⟨c93,H⟩:=H;have c93b0:=DT c93;clear c93;replace H:=IC H;obtain ⟨c94,H⟩:=H;have c94b0:=DT c94;clear c94;replace H:=IC H;obtain ⟨c95,H⟩:=H;have c95b0:=DT c95;clear c95;replace H:=IC H;obtain ⟨c96,H⟩:=H;have c96b0:=DT c96;clear c96;obtain ⟨ji97,hji97⟩ : ∃ j_ : Int,(wrap64 (x235_6 + 1)) = j_:=⟨_,rfl⟩;replace H : (if 0 ≤ (ji97) then (if (ji97) ≤ ((rd_L2 t664 (rd t639 x225_5)).length : Int) then ((some ((rd_L2 t664 (rd t639 x225_5)).drop ((ji97) : Int).toNat : List Int)).bind fun y676=>(laws_FnOppositeEdgesFound.l3 k6 t634 t639 t640 t664 x225_5 (rd t639 x225_5) x40_6 (rd (rd_L2 t664 (rd t639 x225_5)) x235_6) t639 (t639.length : Int) x225_5 (rd_L2 t664 (rd t639 x225_5)) ((rd_L2 t664 (rd t639 x225_5)).length : Int) x235_6 y676 (y676.length : Int) 0)) else (none)) else (none)) = some r:=by first|(rw [hji97] at H;exact H)|(simp only [hji97] at H ⊢;exact H)
                 have hji97w : (IntKind.i64.wrap (x235_6 + 1)) = ji97:=(i64_w _).trans hji97;replace H:=IC H;obtain ⟨c98,H⟩:=H;have c98b0:=ET c98;have c98b1:=DT c98;clear c98;replace H:=IC H;obtain ⟨c99,H⟩:=H;have c99b0:=ET c99;have c99b1:=DT c99;clear c99;obtain ⟨y676,hy676⟩ : ∃ y_ : List Int,y_ = ((rd_L2 t664 (rd t639 x225_5)).drop ((ji97) : Int).toNat):=⟨_,rfl⟩;replace H : (laws_FnOppositeEdgesFound.l3 k6 t634 t639 t640 t664 x225_5 (rd t639 x225_5) x40_6 (rd (rd_L2 t664 (rd t639 x225_5)) x235_6) t639 (t639.length : Int) x225_5 (rd_L2 t664 (rd t639 x225_5)) ((rd_L2 t664 (rd t639 x225_5)).length : Int) x235_6 y676 (y676.length : Int) 0) = some r:=HY H hy676;have Ny676:=AM hy676;clear hy676;have H':=AM H;clear H;have p674 : 0 ≤ (x235_6 : Int):=OD AS;have q674 : x235_6 < ((rd_L2 t664 (rd t639 x225_5)).length : Int):=OD AS;obtain ⟨ad674,e674,hx674_0⟩:=Kd.at_int HR673_0.out x235_6 p674 q674;cases e674;try (replace hx674_0:=LC hx674_0)
                 replace p674:=ET p674;replace q674:=ET q674;have p675 : 0 ≤ ((rd t639 x225_5) : Int):=OD AS;have q675 : (rd t639 x225_5) < (t664.length : Int):=OD AS;obtain ⟨ad675,A675_0,c675_0,e675,hx675_0,hl675_0,hi675_0⟩:=at_L2 (Kd.S_reads' HO_36.out).2.2 (rd t639 x225_5) p675 q675;obtain rfl : ad673 = ad675:=(by injection e675);obtain ⟨ce675,hce675,hMe675,hcc675⟩:=Kd.S_get HO_36.out [] (rd t639 x225_5) p675 (by first|exact q675|exact OD AS|(have e_:=(Kd.S_reads' HO_36.out).1;omega));obtain ⟨ve675_0,rfl,ge675_0⟩:=hMe675;have hv675_0:=hcc675 0 _ rfl;rw [Nat.add_zero,show ((Kd.slice 3 (Kd.int .i64))).sz = 1 from rfl,Nat.mul_one] at hv675_0;replace hv675_0:=Option.some.inj (hv675_0.symm.trans hx675_0);rw [hv675_0] at ge675_0;have HL675_0:=AM (show Kd.R (Kd.int .i64) 3 _ _ _ _ (rd_L2 t664 (rd t639 x225_5)) from ge675_0);clear hv675_0 ge675_0;clear hcc675 hce675;have HR675_0:=AM hi675_0;have HC675_0:=AM hl675_0;clear hi675_0 hl675_0;replace p675:=ET p675;replace q675:=ET q675;have q100 : ((ji97) : Int) ≤ (((rd_L2 t664 (rd t639 x225_5)).length : Int) : Int):=OD AS;obtain ⟨i0100,hi0100,_,hsz100,_⟩:=info_parts info3;have hroom100 : (rd_L2 t664 (rd t639 x225_5)).length ≤ c675_0:=HC675_0.out;have hC100 : Kd.C (Kd.int .i64) _ A675_0 (rd_L2 t664 (rd t639 x225_5)).length (rd_L2 t664 (rd t639 x225_5)):=(CX HR675_0);have q0100 : (0 : Int) ≤ ((ji97) : Int):=OD AS;have hcut100:=cut_from (P:=Try.prog) 24 3 .i64 Try.underlying24 hi0100 1 hsz100 A675_0 (rd_L2 t664 (rd t639 x225_5)).length c675_0 (ji97) q0100 q100;have hr100:=Kd.C_drop (m:=((ji97) : Int).toNat) (c:=c675_0) hC100 (by omega) hroom100;obtain ⟨A100,hA100⟩ : ∃ A1,A1 = (if c675_0 = ((ji97) : Int).toNat then A675_0 else (A675_0 : Option Addr).map (·.add (((ji97) : Int).toNat * 1))):=⟨_,rfl⟩;obtain ⟨c100,hc100⟩ : ∃ c1,c1 = c675_0 - ((ji97) : Int).toNat:=⟨_,rfl⟩;have hy100 : y676.length = (rd_L2 t664 (rd t639 x225_5)).length - ((ji97) : Int).toNat:=(by rw [Ny676.out,List.length_drop] <;> omega);rw [show (rd_L2 t664 (rd t639 x225_5)).drop ((ji97) : Int).toNat = y676 from Ny676.out.symm] at hr100;replace hr100 : Kd.C (Kd.int .i64) _ A100 y676.length y676:=(by rw [hA100];exact hr100);rw [← hy100,← hA100,← hc100] at hcut100;have HR679:=AM hr100;have HC679:=AM (show y676.length ≤ c100 from by rw [hy100,hc100];exact Nat.sub_le_sub_right hroom100 _);clear hr100 hC100 hroom100 hi0100 hsz100 hc100;have KY100:=AM hy100;have KA100:=AM hA100;clear hy100 hA100;replace q100:=ET q100;go_wp2;repeat (go_quiet (fail);try go_wp2)
                 go_loopg [40,248] k6 (fun kq v40 v248 w'=>∃ (x40_7 : Bool) (x248_7 : Int),v40 = .bool x40_7∧v248 = .int .i64 x248_7∧Aside0 (laws_FnOppositeEdgesFound.l3 kq t634 t639 t640 t664 x225_5 (rd t639 x225_5) x40_7 (rd (rd_L2 t664 (rd t639 x225_5)) x235_6) t639 (t639.length : Int) x225_5 (rd_L2 t664 (rd t639 x225_5)) ((rd_L2 t664 (rd t639 x225_5)).length : Int) x235_6 y676 (y676.length : Int) x248_7 = some r)∧Aside0 (kq ≤ k6)∧Aside0 (Kd.R (Kd.int .i64) 3 w' w.heap.size (fun k_=>some k_≠((.slice (some ad672) t639.length co85) : Value).ownBlock∧some k_≠(v644 : Value).ownBlock∧some k_≠((.slice (some ad672) t639.length co85) : Value).ownBlock) (.slice Ao51 t634.length co51) t634)∧Aside0 (Kd.R (Kd.int .i64) 3 w' w.heap.size (fun k_=>some k_≠((.slice Ao51 t634.length co51) : Value).ownBlock∧some k_≠(v644 : Value).ownBlock) (.slice (some ad672) t639.length co85) t639)∧Aside0 (Kd.R (Kd.int .i64) 3 w' w.heap.size (fun k_=>some k_≠((.slice Ao51 t634.length co51) : Value).ownBlock∧some k_≠((.slice (some ad672) t639.length co85) : Value).ownBlock∧some k_≠((.slice (some ad672) t639.length co85) : Value).ownBlock) v644 t640)∧Aside0 (Kd.S (Kd.slice 3 (Kd.int .i64)) 24 w' w.heap.size (fun k_=>some k_≠((.slice Ao51 t634.length co51) : Value).ownBlock∧some k_≠((.slice (some ad672) t639.length co85) : Value).ownBlock∧some k_≠(v644 : Value).ownBlock∧some k_≠((.slice (some ad672) t639.length co85) : Value).ownBlock) (.slice (some ad673) t664.length co91) t664)∧Aside0 (Kd.R (Kd.int .i64) 3 w' w.heap.size (fun k_=>some k_≠((.slice Ao51 t634.length co51) : Value).ownBlock∧some k_≠(v644 : Value).ownBlock) (.slice (some ad672) t639.length co85) t639)∧Aside0 (Kd.C (Kd.int .i64) w' (some ad674) (rd_L2 t664 (rd t639 x225_5)).length (rd_L2 t664 (rd t639 x225_5)))∧Aside0 (Kd.C (Kd.int .i64) w' A675_0 (rd_L2 t664 (rd t639 x225_5)).length (rd_L2 t664 (rd t639 x225_5)))∧Aside0 (Kd.C (Kd.int .i64) w' A100 y676.length y676)∧Aside0 (Below w.heap.size w w'))
                 case atStart=>exact ⟨(x40_6),(0),RF,RF,H',⟨Nat.le_refl _⟩,⟨KR HO_23⟩,⟨KR HO_26⟩,⟨KR HO_27⟩,⟨KS HO_36⟩,⟨KR HO_223⟩,⟨CX HR673_0⟩,⟨CX HR675_0⟩,⟨CX HR679⟩,⟨BB⟩⟩
                 case round=>as_aux_lemma =>
                  clear H';try clear c1
                  try clear q1
                  try clear c2
                  try clear p2
                  try clear c3
                  try clear c4
                  try clear c5
                  try clear c6
                  try clear p6
                  try clear q6
                  try clear hx6
                  try clear c7
                  try clear c8
                  try clear c9
                  try clear c10
                  try clear q10
                  try clear c21
                  try clear c21b0
                  try clear c21b1
                  try clear c21b2
                  try clear c23
                  try clear c24
                  try clear c24b0
                  try clear c24b1
                  try clear c24b2
                  try clear c25
                  try clear c25b0
                  try clear c25b1
                  try clear c25b2
                  try clear c26
                  try clear c26b0
                  try clear c26b1
                  try clear c26b2
                  try clear c28
                  try clear c33
                  try clear c35
                  try clear c37
                  try clear c37b0
                  try clear c38
                  try clear c38b0
                  try clear c39
                  try clear c39b0
                  try clear c40
                  try clear c43
                  try clear c56
                  try clear c56b0
                  try clear c56b1
                  try clear c56b2
                  try clear c58
                  try clear c60
                  try clear c61
                  try clear c61b0
                  try clear c61b1
                  try clear c61b2
                  try clear c63
                  try clear p63
                  try clear q63
                  try clear hx63
                  try clear c64
                  try clear p64
                  try clear c67
                  try clear p67
                  try clear q67
                  try clear hx67
                  try clear c77
                  try clear c78
                  try clear c82
                  try clear c84
                  try clear c86
                  try clear c86b0
                  try clear c87
                  try clear c87b0
                  try clear c88
                  try clear c88b0
                  try clear c89
                  try clear c89b0
                  try clear c90
                  try clear c90b0
                  try clear c92
                  try clear c92b0
                  try clear c93
                  try clear c93b0
                  try clear c94
                  try clear c94b0
                  try clear c95
                  try clear c95b0
                  try clear c96
                  try clear c96b0
                  try clear c98
                  try clear c98b0
                  try clear c98b1
                  try clear c99
                  try clear c99b0
                  try clear c99b1
                  try clear c100
                  try clear q100
                  try clear hx631_0
                  try clear hx672_0
                  try clear hx673_0
                  try clear hx674_0
                  try clear hx675_0
                  try clear p2
                  try clear p6
                  try clear p63
                  try clear p631
                  try clear p64
                  try clear p67
                  try clear p672
                  try clear p673
                  try clear p674
                  try clear p675
                  try clear q0100
                  try clear q100
                  try clear q6
                  try clear q63
                  try clear q631
                  try clear q67
                  try clear q672
                  try clear q673
                  try clear q674
                  try clear q675
                  obtain ⟨x40_7,x248_7,rfl,rfl,HA,HK7,HO_23,HO_26,HO_27,HO_36,HO_223,HR673_0,HR675_0,HR679,HB⟩:=hrel;cases gk with
                  | zero=>exact absurd HA.out (by simp [laws_FnOppositeEdgesFound.l3])
                  | succ k7 =>
                   have H:=HA.out;clear HA;simp only [laws_FnOppositeEdgesFound.l3] at H;by_cases c101 : x248_7 < (y676.length : Int)
                   ·rw [if_pos c101] at H;have c101b0:=DT c101;clear c101;replace H:=IC H;obtain ⟨c102,H⟩:=H;have c102b0:=DT c102;clear c102;replace H:=IC H;obtain ⟨c103,H⟩:=H;have c103b0:=DT c103;clear c103;by_cases c104 : x40_7 = true
                    ·subst c104;replace H:=IP H;have H':=AM H;clear H;have p680 : 0 ≤ (x248_7 : Int):=OD AS;have q680 : x248_7 < (y676.length : Int):=OD AS;obtain ⟨ad680,e680,hx680_0⟩:=Kd.at_int HR679.out x248_7 p680 q680;cases e680;try (replace hx680_0:=LC hx680_0)
                     replace p680:=ET p680;replace q680:=ET q680;go_wp2;repeat (go_quiet (fail);try go_wp2)
                     go_roundg k7
                     case measure=>have:=HJ11.out;have:=HJ33.out;have:=HJ48.out;have:=HJ79.out;have:=HK5.out;have:=HK6.out;have:=HK7.out;omega
                     case rel=>exact ⟨(true),(wrap64 (x248_7 + 1)),RF,RF,H',⟨by have:=HJ11.out;have:=HJ33.out;have:=HJ48.out;have:=HJ79.out;have:=HK5.out;have:=HK6.out;have:=HK7.out;omega⟩,⟨KR HO_23⟩,⟨KR HO_26⟩,⟨KR HO_27⟩,⟨KS HO_36⟩,⟨KR HO_223⟩,⟨CX HR673_0⟩,⟨CX HR675_0⟩,⟨CX HR679⟩,⟨BB⟩⟩
                    ·replace c104:=NF c104;subst c104;replace H:=IN H;replace H:=IC H;obtain ⟨c105,H⟩:=H;have c105b0:=DT c105;clear c105;replace H:=IC H;obtain ⟨c106,H⟩:=H;have c106b0:=DT c106;clear c106;replace H:=IC H;obtain ⟨c107,H⟩:=H;have c107b0:=DT c107;clear c107;replace H:=IC H;obtain ⟨c108,H⟩:=H;have c108b0:=DT c108;clear c108;have H':=AM H;clear H;have p680 : 0 ≤ (x248_7 : Int):=OD AS;have q680 : x248_7 < (y676.length : Int):=OD AS;obtain ⟨ad680,e680,hx680_0⟩:=Kd.at_int HR679.out x248_7 p680 q680;cases e680;try (replace hx680_0:=LC hx680_0)
                     replace p680:=ET p680;replace q680:=ET q680;have p681 : 0 ≤ ((rd (rd_L2 t664 (rd t639 x225_5)) x235_6) : Int):=OD AS;have q681 : (rd (rd_L2 t664 (rd t639 x225_5)) x235_6) < (t634.length : Int):=OD AS;obtain ⟨ad681,e681,hx681_0⟩:=Kd.at_int (Kd.R_reads' HO_23.out).2.2 (rd (rd_L2 t664 (rd t639 x225_5)) x235_6) p681 q681;cases e681;replace p681:=ET p681;replace q681:=ET q681;have p682 : 0 ≤ ((rd y676 x248_7) : Int):=OD AS;have q682 : (rd y676 x248_7) < (t634.length : Int):=OD AS;obtain ⟨ad682,e682,hx682_0⟩:=Kd.at_int (Kd.R_reads' HO_23.out).2.2 (rd y676 x248_7) p682 q682;obtain rfl : ad681 = ad682:=(by injection e682);replace p682:=ET p682;replace q682:=ET q682;go_wp2;repeat (go_quiet (fail);try go_wp2)
                     go_roundg k7
                     case measure=>have:=HJ11.out;have:=HJ33.out;have:=HJ48.out;have:=HJ79.out;have:=HK5.out;have:=HK6.out;have:=HK7.out;omega
                     case rel=>exact ⟨(((wrap64 ((rd t634 (rd (rd_L2 t664 (rd t639 x225_5)) x235_6)) + (rd t634 (rd y676 x248_7)))) == 0)),(wrap64 (x248_7 + 1)),RF,RF,H',⟨by have:=HJ11.out;have:=HJ33.out;have:=HJ48.out;have:=HJ79.out;have:=HK5.out;have:=HK6.out;have:=HK7.out;omega⟩,⟨KR HO_23⟩,⟨KR HO_26⟩,⟨KR HO_27⟩,⟨KS HO_36⟩,⟨KR HO_223⟩,⟨CX HR673_0⟩,⟨CX HR675_0⟩,⟨CX HR679⟩,⟨BB⟩⟩
                   ·rw [if_neg c101] at H;have c101b0:=DF c101;clear c101;have H':=AM H;clear H;go_wp2;repeat (go_quiet (fail);try go_wp2)
                    go_roundg k7
                    case measure=>have:=HJ11.out;have:=HJ33.out;have:=HJ48.out;have:=HJ79.out;have:=HK5.out;have:=HK6.out;have:=HK7.out;omega
                    case rel=>exact ⟨(x40_7),(wrap64 (x235_6 + 1)),RF,RF,H',⟨by have:=HJ11.out;have:=HJ33.out;have:=HJ48.out;have:=HJ79.out;have:=HK5.out;have:=HK6.out;have:=HK7.out;omega⟩,⟨KR HO_23⟩,⟨KR HO_26⟩,⟨KR HO_27⟩,⟨KS HO_36⟩,⟨KR HO_223⟩,⟨CX HR673_0⟩,⟨BB⟩⟩
                ·rw [if_neg c92] at H;have c92b0:=DF c92;clear c92;by_cases c109 : (t640.length : Int) > 0
                 ·rw [if_pos c109] at H;have c109b0:=DT c109;have c109b1 : decide (0 < t640.length) = true:=DT (by omega);clear c109;replace H:=ID H;obtain ⟨c110,H⟩:=H;have c110b0 : (x40_6 != (x225_5 == (wrap64 ((t639.length : Int) - 1)))) = false:=by simpa using c110
                  (try (have c110b1 : decide (x40_6 = (x225_5 == (wrap64 ((t639.length : Int) - 1)))) = true:=by simpa using c110))
                  (try (have c110b2 : (x40_6 == (x225_5 == (wrap64 ((t639.length : Int) - 1)))) = true:=by simpa using c110));clear c110;have H':=AM H;clear H;obtain ⟨Ao111,co111,eo111⟩:=Kd.R_slice HO_27.out;subst eo111;go_wp2;repeat (go_quiet (fail);try go_wp2)
                  go_roundg k6
                  case measure=>have:=HJ11.out;have:=HJ33.out;have:=HJ48.out;have:=HJ79.out;have:=HK5.out;have:=HK6.out;omega
                  case rel=>exact ⟨(wrap64 (x225_5 + 1)),RF,H',⟨by have:=HJ11.out;have:=HJ33.out;have:=HJ48.out;have:=HJ79.out;have:=HK5.out;have:=HK6.out;omega⟩,⟨KR HO_23⟩,⟨KR HO_26⟩,⟨KR HO_27⟩,⟨KS HO_36⟩,⟨KR HO_223⟩,⟨BB⟩⟩
                 ·rw [if_neg c109] at H;have c109b0:=DF c109;have c109b1 : decide (0 < t640.length) = false:=DF (by omega);clear c109;replace H:=ID H;obtain ⟨c112,H⟩:=H;have c112b0 : (x40_6 != false) = false:=by simpa using c112
                  (try (have c112b1 : decide (x40_6 = false) = true:=by simpa using c112))
                  (try (have c112b2 : (x40_6 == false) = true:=by simpa using c112));clear c112;have H':=AM H;clear H;obtain ⟨Ao113,co113,eo113⟩:=Kd.R_slice HO_27.out;subst eo113;go_wp2;repeat (go_quiet (fail);try go_wp2)
                  go_roundg k6
                  case measure=>have:=HJ11.out;have:=HJ33.out;have:=HJ48.out;have:=HJ79.out;have:=HK5.out;have:=HK6.out;omega
                  case rel=>exact ⟨(wrap64 (x225_5 + 1)),RF,H',⟨by have:=HJ11.out;have:=HJ33.out;have:=HJ48.out;have:=HJ79.out;have:=HK5.out;have:=HK6.out;omega⟩,⟨KR HO_23⟩,⟨KR HO_26⟩,⟨KR HO_27⟩,⟨KS HO_36⟩,⟨KR HO_223⟩,⟨BB⟩⟩
             ·rw [if_neg c86] at H;have c86b0:=DF c86;try (have c86bl:=c86b0;rw [hl631_0] at c86bl)
              clear c86;by_cases c114 : (t640.length : Int) = 2
              ·rw [if_pos c114] at H;have c114b0:=QT c114;have c114b1:=bne_eq_false_iff_eq.mpr c114;clear c114;replace H:=IC H;obtain ⟨c115,H⟩:=H;have c115b0:=DT c115;have c115b1 : decide (0 < t640.length) = true:=DT (by omega);clear c115;replace H:=IC H;obtain ⟨c116,H⟩:=H;have c116b0:=DT c116;clear c116;replace H:=IC H;obtain ⟨c117,H⟩:=H;have c117b0:=DT c117;clear c117;replace H:=IC H;obtain ⟨c118,H⟩:=H;have c118b0:=DT c118;have c118b1 : decide (1 < t640.length) = true:=DT (by omega);clear c118;replace H:=IC H;obtain ⟨c119,H⟩:=H;have c119b0:=DT c119;clear c119;replace H:=IC H;obtain ⟨c120,H⟩:=H;have c120b0:=DT c120;clear c120;replace H:=IC H;obtain ⟨c121,H⟩:=H;have c121b0:=QT c121;have c121b1:=bne_eq_false_iff_eq.mpr c121;clear c121;obtain rfl:=Option.some.inj H;obtain ⟨Ao122,co122,eo122⟩:=Kd.R_slice HO_27.out;subst eo122;have p668 : 0 ≤ (0 : Int):=(by omega);have q668 : 0 < (t640.length : Int):=OD AS;obtain ⟨ad668,e668,hx668_0⟩:=Kd.at_int (Kd.R_reads' HO_27.out).2.2 0 p668 q668;cases e668;have qi668 : (0 < t640.length) = True:=ET (by omega)
               (try rw [show ((0 : Int)).toNat = 0 from rfl] at hx668_0)
               (try rw [Addr.add_zero'] at hx668_0);replace p668:=ET p668;replace q668:=ET q668;have p669 : 0 ≤ ((rd t640 0) : Int):=OD AS;have q669 : (rd t640 0) < (t634.length : Int):=OD AS;obtain ⟨ad669,e669,hx669_0⟩:=Kd.at_int (Kd.R_reads' HO_23.out).2.2 (rd t640 0) p669 q669;cases e669;replace p669:=ET p669;replace q669:=ET q669;have p670 : 0 ≤ (1 : Int):=(by omega);have q670 : 1 < (t640.length : Int):=OD AS;obtain ⟨ad670,e670,hx670_0⟩:=Kd.at_int (Kd.R_reads' HO_27.out).2.2 1 p670 q670;obtain rfl : ad668 = ad670:=(by injection e670)
               (try simp only [show (1 : Int).toNat = 1 from rfl,Nat.reduceMul,Nat.reduceEqDiff,Go.Addr.add,↓reduceIte] at hx670_0);have qi670 : (1 < t640.length) = True:=ET (by omega)
               (try rw [show ((1 : Int)).toNat = 1 from rfl] at hx670_0);replace p670:=ET p670;replace q670:=ET q670;have p671 : 0 ≤ ((rd t640 1) : Int):=OD AS;have q671 : (rd t640 1) < (t634.length : Int):=OD AS;obtain ⟨ad671,e671,hx671_0⟩:=Kd.at_int (Kd.R_reads' HO_23.out).2.2 (rd t640 1) p671 q671;obtain rfl : ad669 = ad671:=(by injection e671);replace p671:=ET p671;replace q671:=ET q671;go_wp2;repeat (go_quiet (fail);try go_wp2)
               go_ret;exact ⟨RE,BB⟩
              ·rw [if_neg c114] at H;have c114b0:=beq_eq_false_iff_ne.mpr c114;have c114b1:=bne_iff_ne.mpr c114;obtain rfl:=Option.some.inj H;obtain ⟨Ao123,co123,eo123⟩:=Kd.R_slice HO_27.out;subst eo123;go_wp2;repeat (go_quiet (fail);try go_wp2)
               go_ret;exact ⟨RE,BB⟩
        ·replace c78:=NF c78;subst c78;replace H:=IN H;obtain rfl:=Option.some.inj H;go_wp2;repeat (go_quiet (fail);try go_wp2)
         go_ret;exact ⟨RE,BB⟩

/-- THE ONE PURE STATEMENT of laws_FnOppositeEdgesFound: yours. -/
def laws_FnOppositeEdgesFound.Pure : Prop:=∀ (l0 : List Int) (l1 : List Int),l0.length ≤ maxLen→l0.length * 1 ≤ 140737488351232→(∀ x ∈ l0,(Lit.int .u8 x).wf = true)→l1.length ≤ maxLen→l1.length * 1 ≤ 140737488351232→(∀ x ∈ l1,(Lit.int .u8 x).wf = true)→∃ k,laws_FnOppositeEdgesFound.f k l0 l1 = some true
theorem laws_FnOppositeEdgesFound.walk (P : laws_FnOppositeEdgesFound.Pure) (a0 : Option Addr) (len0 cap0 : Nat) (z0 : List Int) (a1 : Option Addr) (len1 cap1 : Nat) (z1 : List Int) (w : World) (w0 : (a0 = none∧len0 = 0∧cap0 = 0∧z0 = []) ∨ ∃ x,a0 = some x∧len0 ≤ cap0∧cap0 ≤ maxLen∧z0.length = cap0∧(∀ i,i < z0.length→w.cell? (x.add i) = some (.int .u8 (z0.getD i 0)))∧∀ n ∈ z0,(Lit.int .u8 n).wf = true) (y0 : len0 * 1 ≤ 140737488351232) (w1 : (a1 = none∧len1 = 0∧cap1 = 0∧z1 = []) ∨ ∃ x,a1 = some x∧len1 ≤ cap1∧cap1 ≤ maxLen∧z1.length = cap1∧(∀ i,i < z1.length→w.cell? (x.add i) = some (.int .u8 (z1.getD i 0)))∧∀ n ∈ z1,(Lit.int .u8 n).wf = true) (y1 : len1 * 1 ≤ 140737488351232) :
  Calls Try.prog 3 #[.slice a0 len0 cap0,.slice a1 len1 cap1] w fun e w'=>e = .returned (.bool true)∧Below w.heap.size w w':=by
 obtain ⟨l0,rfl,hr0,hm0,hw0,hc0⟩:=ReadsInt.ofRowC w0;obtain ⟨l1,rfl,hr1,hm1,hw1,hc1⟩:=ReadsInt.ofRowC w1;obtain ⟨k,h⟩:=P l0 l1 hm0 y0 hw0 hm1 y1 hw1;refine (laws_FnOppositeEdgesFound.calls k _ _ l0 _ _ l1 true w (Kd.C_of_reads (d:=(0 : Int)) (h1:=fun _=>rfl) hr0) hc0 (Kd.C_of_reads (d:=(0 : Int)) (h1:=fun _=>rfl) hr1) hc1 h).mono ?_;rintro e w' ⟨rfl,hd⟩;exact ⟨rfl,hd⟩

end Go.Proofs.Ytlolkkfpfjlhmaa.PFnOppositeEdgesFound
