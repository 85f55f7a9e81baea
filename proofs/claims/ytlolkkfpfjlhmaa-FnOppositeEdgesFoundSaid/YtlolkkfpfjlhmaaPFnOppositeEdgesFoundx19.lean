-- Written by a program of this session (wip/tools/pp.sh) out of the translation; Lean checks it.
import Derived.Test.YtlolkkfpfjlhmaaPFnOppositeEdgesFoundx6
namespace Go.Proofs.Ytlolkkfpfjlhmaa.PFnOppositeEdgesFound
open Go.RowKit Go.Proofs.YtlolkkfpfjlhmaaOwn Go.Proofs.YtlolkkfpfjlhmaaW.PrintWords Go.Proofs.YtlolkkfpfjlhmaaW.PrintLast Go.Proofs.YtlolkkfpfjlhmaaW.PrintMore
attribute [local go_sem] max2_int min2_int max_two min_two max_three min_three max_four min_four   -- for this text's walks alone
set_option linter.unusedVariables false
set_option maxHeartbeats 8000000
set_option maxRecDepth 100000
set_option linter.unusedSimpArgs false

/-! ### impl_SquareCells: function 19 -/
def impl_SquareCells.f (k : Nat) (a0 : Int) : Option ((List (List Int)) × Bool):=(impl_isReach.f a0).bind fun t600=>(if t600 = true then ((impl_square_cells.f k a0).bind fun t601=>(some (t601,true))) else (some (([] : List (List Int)),false)))
theorem impl_SquareCells.mono : ∀ a0 k,LeO (impl_SquareCells.f k a0) (impl_SquareCells.f (k + 1) a0):=by
 intro a0 k;unfold impl_SquareCells.f
 have m0:=@impl_square_cells.mono
 exact MO
theorem impl_SquareCells.calls (k : Nat) (a0 : Int) (r1 : List (List Int)) (r2 : Bool) (w : World) (h : impl_SquareCells.f k a0 = some (r1,r2)) :
  Calls Try.prog 19 #[.int .i64 a0] w fun e w'=>∃ v0_ : Value,e = .returned (.tuple #[v0_,.bool r2])∧Kd.S (Kd.slice 3 (Kd.int .i64)) 24 w' w.heap.size (fun _=>True) v0_ r1∧Below w.heap.size w w':=by
 have hu43:=Try.underlying43;have HB:=HRf w;have H : ((impl_isReach.f a0).bind fun t600=>(if t600 = true then ((impl_square_cells.f k a0).bind fun t601=>(some (t601,true))) else (some (([] : List (List Int)),false)))) = some (r1,r2):=h;clear h;replace H:=EA H;obtain ⟨t600,A2,H⟩:=H;by_cases c3 : t600 = true
 ·subst c3;replace H:=IP H;replace H:=EA H;obtain ⟨t601,A4,H⟩:=H;simp only [Option.some.injEq,Prod.mk.injEq] at H;obtain ⟨rfl,rfl⟩:=H;go_enter Try.func19,Try.ntmps19;go_wp2_with (first|(refine GC 34 ?_;refine GM (some 5) Try.func34 (impl_isReach.calls a0 true _ A2.out) ?_;rintro e w' ⟨rfl,⟨nd,rfl⟩⟩;refine ⟨_,rfl,?_⟩)|(refine GC 24 ?_;refine GM (some 9) Try.func24 (impl_square_cells.calls k a0 t601 _ A4.out) ?_;rintro e w5 ⟨v602,rfl,ho0,hb⟩;refine ⟨_,rfl,?_⟩;have HO603:=AM (Kd.S_lower ho0 (BZ BB));replace HB:=HS hb;try clear hb ho0));go_ret2;exact ⟨_,RE,KS HO603,BB⟩
 ·replace c3:=NF c3;subst c3;replace H:=IN H;simp only [Option.some.injEq,Prod.mk.injEq] at H;obtain ⟨rfl,rfl⟩:=H;go_enter Try.func19,Try.ntmps19;go_wp2_with (first|(refine GC 34 ?_;refine GM (some 5) Try.func34 (impl_isReach.calls a0 false _ A2.out) ?_;rintro e w' ⟨rfl,⟨nd,rfl⟩⟩;refine ⟨_,rfl,?_⟩));go_ret2;exact ⟨_,RE,by first|exact Kd.S_nil _ _ _ _ _|exact Kd.N_nil _ _ _ _ _|exact Kd.V_nil _ _ _ _ _|exact Kd.Q_nil _ _ _ _ _|exact Kd.R_nil _ _ _ _ _,BB⟩

end Go.Proofs.Ytlolkkfpfjlhmaa.PFnOppositeEdgesFound
