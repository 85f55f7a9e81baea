-- Written by a program of this session (wip/tools/pp.sh) out of the translation; Lean checks it.
import Derived.Test.YtcecimigkndakabPFnExactFairCutx17
namespace Go.Proofs.Ytcecimigkndakab.PFnExactFairCut
open Go.RowKit Go.Proofs.YtcecimigkndakabOwn Go.Proofs.YtcecimigkndakabW.PrintWords Go.Proofs.YtcecimigkndakabW.PrintLast Go.Proofs.YtcecimigkndakabW.PrintMore
attribute [local go_sem] max2_int min2_int max_two min_two max_three min_three max_four min_four   -- for this text's walks alone
set_option linter.unusedVariables false
set_option maxHeartbeats 8000000
set_option maxRecDepth 100000
set_option linter.unusedSimpArgs false

/-! ### impl_FairCell: function 20 -/
def impl_FairCell.f (k : Nat) (a0 : Int) (l1 : List (List Int)) : Option (Int × Bool):=(impl_areTastes.f k a0 l1).bind fun t516=>(if t516 = true then ((impl_cakeLabels.f k a0 l1).bind fun t517=>((impl_FindFull.f k a0 t517).bind fun bt520=>(some (bt520.1,bt520.2)))) else (some (0,false)))
theorem impl_FairCell.mono : ∀ a0 a1 k,LeO (impl_FairCell.f k a0 a1) (impl_FairCell.f (k + 1) a0 a1):=by
 intro a0 a1 k;unfold impl_FairCell.f
 have m0:=@impl_FindFull.mono
 have m1:=@impl_areTastes.mono
 have m2:=@impl_cakeLabels.mono
 exact MO
theorem impl_FairCell.calls (k : Nat) (a0 : Int) (A1 : Option Addr) (c1 : Nat) (l1 : List (List Int)) (r1 : Int) (r2 : Bool) (w : World) (hr1 : Kd.C (Kd.slice 3 (Kd.int .i64)) w A1 l1.length l1) (hc1 : l1.length ≤ c1) (h : impl_FairCell.f k a0 l1 = some (r1,r2)) :
  Calls Try.prog 20 #[.int .i64 a0,.slice A1 l1.length c1] w fun e w'=>e = .returned (.tuple #[.int .i64 r1,.bool r2])∧Below w.heap.size w w':=by
 have HR1:=AM hr1;have HC1:=AM hc1;clear hr1 hc1;have HB:=HRf w;have H : ((impl_areTastes.f k a0 l1).bind fun t516=>(if t516 = true then ((impl_cakeLabels.f k a0 l1).bind fun t517=>((impl_FindFull.f k a0 t517).bind fun bt520=>(some (bt520.1,bt520.2)))) else (some (0,false)))) = some (r1,r2):=h;clear h;replace H:=EA H;obtain ⟨t516,A3,H⟩:=H;by_cases c4 : t516 = true
 ·subst c4;replace H:=IP H;replace H:=EA H;obtain ⟨t517,A5,H⟩:=H;replace H:=EA H;obtain ⟨⟨t520,t521⟩,A6,H⟩:=H;try dsimp only at H
  simp only [Option.some.injEq,Prod.mk.injEq] at H;obtain ⟨rfl,rfl⟩:=H;go_enter Try.func20,Try.ntmps20;go_wp2_with (first|(refine GC 35 ?_;refine GM (some 8) Try.func35 (impl_areTastes.calls k a0 _ _ l1 true _ (CW HR1.out) HC1.out A3.out) ?_;rintro e w7 ⟨rfl,hb⟩;refine ⟨_,rfl,?_⟩;replace HB:=HS hb;try clear hb)|(refine GC 37 ?_;refine GM (some 13) Try.func37 (impl_cakeLabels.calls k a0 _ _ l1 t517 _ (CW (Kd.C_below HR1.out HB.out)) HC1.out A5.out) ?_;rintro e w8 ⟨v518,rfl,ho0,hb⟩;refine ⟨_,rfl,?_⟩;have HO519:=AM (Kd.R_lower ho0 (BZ BB));replace HB:=HS hb;try clear hb ho0;obtain ⟨Ao9,co9,eo9⟩:=Kd.R_slice HO519.out;subst eo9)|(refine GC 36 ?_;refine GM (some 14) Try.func36 (impl_FindFull.calls k a0 _ _ t517 t520 t521 _ (CW (Kd.R_reads' HO519.out).2.2) ((Kd.R_reads' HO519.out).2.1) A6.out) ?_;rintro e w10 ⟨rfl,hb⟩;refine ⟨_,rfl,?_⟩;replace HO519:=RB HO519 hb;replace HB:=HS hb;try clear hb));go_ret2;exact ⟨RE,BB⟩
 ·replace c4:=NF c4;subst c4;replace H:=IN H;simp only [Option.some.injEq,Prod.mk.injEq] at H;obtain ⟨rfl,rfl⟩:=H;go_enter Try.func20,Try.ntmps20;go_wp2_with (first|(refine GC 35 ?_;refine GM (some 8) Try.func35 (impl_areTastes.calls k a0 _ _ l1 false _ (CW HR1.out) HC1.out A3.out) ?_;rintro e w11 ⟨rfl,hb⟩;refine ⟨_,rfl,?_⟩;replace HB:=HS hb;try clear hb));go_ret2;exact ⟨RE,BB⟩

end Go.Proofs.Ytcecimigkndakab.PFnExactFairCut
