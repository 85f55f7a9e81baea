-- Written by a program of this session (wip/tools/pp.sh) out of the translation; Lean checks it.
import Derived.Test.YtcecimigkndakabPFnExactFairCutx2
namespace Go.Proofs.Ytcecimigkndakab.PFnExactFairCut
open Go.RowKit Go.Proofs.YtcecimigkndakabOwn Go.Proofs.YtcecimigkndakabW.PrintWords Go.Proofs.YtcecimigkndakabW.PrintLast Go.Proofs.YtcecimigkndakabW.PrintMore
attribute [local go_sem] max2_int min2_int max_two min_two max_three min_three max_four min_four   -- for this text's walks alone
set_option linter.unusedVariables false
set_option maxHeartbeats 8000000
set_option maxRecDepth 100000
set_option linter.unusedSimpArgs false

/-! ### spec_meCells: function 17 -/
mutual
def spec_meCells.l0 : Nat→Int→List (List Int)→Int→Option ((List (List Int)))
 | 0,_,_,_=>none
 | k + 1,x0,x3,x4=>(spec_meCount.f x0).bind fun t155=>(if x4 < t155 then (spec_meCells.l1 k x0 x3 x4 (wrap64 (x4 + 1))) else (some x3))
def spec_meCells.l1 : Nat→Int→List (List Int)→Int→Int→Option ((List (List Int)))
 | 0,_,_,_,_=>none
 | k + 1,x0,x3,x4,x5=>(spec_meCount.f x0).bind fun t156=>(if x5 < t156 then (spec_meCells.l2 k x0 x3 x4 x5 (wrap64 (x5 + 1))) else (spec_meCells.l0 k x0 x3 (wrap64 (x4 + 1))))
def spec_meCells.l2 : Nat→Int→List (List Int)→Int→Int→Int→Option ((List (List Int)))
 | 0,_,_,_,_,_=>none
 | k + 1,x0,x3,x4,x5,x6=>(spec_meCount.f x0).bind fun t157=>(if x6 < t157 then ((spec_meNear.f k x0 x4 x5).bind fun t158=>(if t158 = true then ((spec_meNear.f k x0 x4 x6).bind fun t159=>(if t159 = true then ((spec_meNear.f k x0 x5 x6).bind fun t160=>(if t160 = true then (if x3.length < 5864062014805 then (spec_meCells.l2 k x0 (x3 ++ [(([x4,x5,x6] : List Int))]) x4 x5 (wrap64 (x6 + 1))) else (none)) else (spec_meCells.l2 k x0 x3 x4 x5 (wrap64 (x6 + 1))))) else (spec_meCells.l2 k x0 x3 x4 x5 (wrap64 (x6 + 1))))) else (spec_meCells.l2 k x0 x3 x4 x5 (wrap64 (x6 + 1))))) else (spec_meCells.l1 k x0 x3 x4 (wrap64 (x5 + 1))))
end
def spec_meCells.f (k : Nat) (a0 : Int) : Option ((List (List Int))):=spec_meCells.l0 k a0 ([] : List (List Int)) 0
theorem spec_meCells.mono_l : ∀ k,(∀ y0 y1 y2,LeO (spec_meCells.l0 k y0 y1 y2) (spec_meCells.l0 (k + 1) y0 y1 y2))∧(∀ y0 y1 y2 y3,LeO (spec_meCells.l1 k y0 y1 y2 y3) (spec_meCells.l1 (k + 1) y0 y1 y2 y3))∧(∀ y0 y1 y2 y3 y4,LeO (spec_meCells.l2 k y0 y1 y2 y3 y4) (spec_meCells.l2 (k + 1) y0 y1 y2 y3 y4))
 | 0=>⟨fun _ _ _=>LZ,fun _ _ _ _=>LZ,fun _ _ _ _ _=>LZ⟩
 | k + 1=>by
  obtain ⟨ih0,ih1,ih2⟩:=spec_meCells.mono_l k
  have m0:=@spec_meNear.mono
  refine ⟨?_,?_,?_⟩ <;> intros
  all_goals (first|unfold spec_meCells.l0|unfold spec_meCells.l1|unfold spec_meCells.l2)
  all_goals exact MO
theorem spec_meCells.mono : ∀ a0 k,LeO (spec_meCells.f k a0) (spec_meCells.f (k + 1) a0):=by
 intro a0 k;obtain ⟨ih0,ih1,ih2⟩:=spec_meCells.mono_l k;unfold spec_meCells.f
 have m0:=@spec_meNear.mono
 exact MO
theorem spec_meCells.calls (k : Nat) (a0 : Int) (r : List (List Int)) (w : World) (h : spec_meCells.f k a0 = some r) :
  Calls Try.prog 17 #[.int .i64 a0] w fun e w'=>∃ v0_ : Value,e = .returned (v0_)∧Kd.S (Kd.slice 3 (Kd.int .i64)) 24 w' w.heap.size (fun _=>True) v0_ r∧Below w.heap.size w w':=by
 have HB:=HRf w;have H : (spec_meCells.l0 k a0 ([] : List (List Int)) 0) = some r:=h;clear h;have H':=AM H;clear H;go_enter Try.func17,Try.ntmps17;go_wp2;go_loopg [3,4] k (fun kq v3 v4 w'=>∃ (x3_1 : List (List Int)) (x4_1 : Int),v4 = .int .i64 x4_1∧Aside0 (spec_meCells.l0 kq a0 x3_1 x4_1 = some r)∧Aside0 (kq ≤ k)∧Aside0 (Kd.S (Kd.slice 3 (Kd.int .i64)) 24 w' w.heap.size (fun _=>True) v3 x3_1)∧Aside0 (Below w.heap.size w w'))
 case atStart=>exact ⟨(([] : List (List Int))),(0),RF,H',⟨Nat.le_refl _⟩,⟨by first|exact Kd.S_nil _ _ _ _ _|exact Kd.N_nil _ _ _ _ _|exact Kd.V_nil _ _ _ _ _|exact Kd.Q_nil _ _ _ _ _|exact Kd.R_nil _ _ _ _ _⟩,⟨BB⟩⟩
 case round =>
  clear H';try clear c1
  obtain ⟨x3_1,x4_1,rfl,HA,HK1,HO_3,HB⟩:=hrel;cases gk with
  | zero=>exact absurd HA.out (by simp [spec_meCells.l0])
  | succ k1 =>
   have H:=HA.out;clear HA;simp only [spec_meCells.l0] at H;replace H:=EA H;obtain ⟨t155,A2,H⟩:=H;by_cases c3 : x4_1 < t155
   ·rw [if_pos c3] at H;have c3b0:=DT c3;clear c3;have H':=AM H;clear H;go_wp2_with (first|(refine GC 27 ?_;refine GM (some 9) Try.func27 (spec_meCount.calls a0 t155 _ A2.out) ?_;rintro e w' ⟨rfl,⟨nd,rfl⟩⟩;refine ⟨_,rfl,?_⟩));go_loopg [3,5] k1 (fun kq v3 v5 w'=>∃ (x3_2 : List (List Int)) (x5_2 : Int),v5 = .int .i64 x5_2∧Aside0 (spec_meCells.l1 kq a0 x3_2 x4_1 x5_2 = some r)∧Aside0 (kq ≤ k1)∧Aside0 (Kd.S (Kd.slice 3 (Kd.int .i64)) 24 w' w.heap.size (fun _=>True) v3 x3_2)∧Aside0 (Below w.heap.size w w'))
    case atStart=>exact ⟨(x3_1),(wrap64 (x4_1 + 1)),RF,H',⟨Nat.le_refl _⟩,⟨KS HO_3⟩,⟨BB⟩⟩
    case round =>
     clear H';try clear c1
     try clear c2
     try clear p2
     try clear c3
     try clear c3b0
     obtain ⟨x3_2,x5_2,rfl,HA,HK2,HO_3,HB⟩:=hrel;cases gk with
     | zero=>exact absurd HA.out (by simp [spec_meCells.l1])
     | succ k2 =>
      have H:=HA.out;clear HA;simp only [spec_meCells.l1] at H;replace H:=EA H;obtain ⟨t156,A4,H⟩:=H;by_cases c5 : x5_2 < t156
      ·rw [if_pos c5] at H;have c5b0:=DT c5;clear c5;have H':=AM H;clear H;go_wp2_with (first|(refine GC 27 ?_;refine GM (some 17) Try.func27 (spec_meCount.calls a0 t156 _ A4.out) ?_;rintro e w' ⟨rfl,⟨nd,rfl⟩⟩;refine ⟨_,rfl,?_⟩));go_loopg [3,6] k2 (fun kq v3 v6 w'=>∃ (x3_3 : List (List Int)) (x6_3 : Int),v6 = .int .i64 x6_3∧Aside0 (spec_meCells.l2 kq a0 x3_3 x4_1 x5_2 x6_3 = some r)∧Aside0 (kq ≤ k2)∧Aside0 (Kd.S (Kd.slice 3 (Kd.int .i64)) 24 w' w.heap.size (fun _=>True) v3 x3_3)∧Aside0 (Below w.heap.size w w'))
       case atStart=>exact ⟨(x3_2),(wrap64 (x5_2 + 1)),RF,H',⟨Nat.le_refl _⟩,⟨KS HO_3⟩,⟨BB⟩⟩
       case round =>
        clear H';try clear c1
        try clear c2
        try clear p2
        try clear c3
        try clear c3b0
        try clear c5
        try clear c5b0
        try clear p2
        obtain ⟨x3_3,x6_3,rfl,HA,HK3,HO_3,HB⟩:=hrel;cases gk with
        | zero=>exact absurd HA.out (by simp [spec_meCells.l2])
        | succ k3 =>
         have H:=HA.out;clear HA;simp only [spec_meCells.l2] at H;replace H:=EA H;obtain ⟨t157,A6,H⟩:=H;by_cases c7 : x6_3 < t157
         ·rw [if_pos c7] at H;have c7b0:=DT c7;clear c7;replace H:=EA H;obtain ⟨t158,A8,H⟩:=H;by_cases c9 : t158 = true
          ·subst c9;replace H:=IP H;replace H:=EA H;obtain ⟨t159,A10,H⟩:=H;by_cases c11 : t159 = true
           ·subst c11;replace H:=IP H;replace H:=EA H;obtain ⟨t160,A12,H⟩:=H;by_cases c13 : t160 = true
            ·subst c13;replace H:=IP H;obtain ⟨y161,hy161⟩ : ∃ y_ : List Int,y_ = (([x4_1,x5_2,x6_3] : List Int)):=⟨_,rfl⟩;replace H : (if x3_3.length < 5864062014805 then (spec_meCells.l2 k3 a0 (x3_3 ++ [y161]) x4_1 x5_2 (wrap64 (x6_3 + 1))) else (none)) = some r:=HY H hy161;have Ny161:=AM hy161;clear hy161;replace H:=IC H;obtain ⟨c14,H⟩:=H;have LMc14:=AM c14;clear c14;obtain ⟨y164,hy164⟩ : ∃ y_ : List (List Int),y_ = (x3_3 ++ [y161]):=⟨_,rfl⟩;replace H : (spec_meCells.l2 k3 a0 y164 x4_1 x5_2 (wrap64 (x6_3 + 1))) = some r:=HY H hy164;have Ny164:=AM hy164;clear hy164;have H':=AM H;clear H;go_wp2_with (first|(refine GC 27 ?_;refine GM (some 25) Try.func27 (spec_meCount.calls a0 t157 _ A6.out) ?_;rintro e w' ⟨rfl,⟨nd,rfl⟩⟩;refine ⟨_,rfl,?_⟩)|(refine GC 33 ?_;refine GM (some 32) Try.func33 (spec_meNear.calls k3 a0 x4_1 x5_2 true _ A8.out) ?_;rintro e w15 ⟨rfl,hb⟩;refine ⟨_,rfl,?_⟩;replace HO_3:=SB HO_3 hb;replace HB:=HS hb;try clear hb)|(go_at_call 33;(with_reducible refine (spec_meNear.calls k3 a0 x4_1 x6_3 true _ A10.out).mono ?_);rintro e w16 ⟨rfl,hb⟩;replace HO_3:=SB HO_3 hb;replace HB:=HS hb;try clear hb)|(go_at_call 33;(with_reducible refine (spec_meNear.calls k3 a0 x5_2 x6_3 true _ A12.out).mono ?_);rintro e w17 ⟨rfl,hb⟩;replace HO_3:=SB HO_3 hb;replace HB:=HS hb;try clear hb)|((with_reducible refine gate_dst (N:=49) rfl ?_);refine Kd.R_lit (Kd.int .i64) _ 3 ?hg (N:=49) ?hd (xs:=([x4_1,x5_2,x6_3] : List Int)) (inner:=[.int .i64 x4_1,.int .i64 x5_2,.int .i64 x6_3]) (ok:=fun _=>True) (okp:=fun _=>True) ?hr ?hp (fun _ hk=>hk) trivial (Below.refl _ _) (Nat.le_refl _) (by simp) ?_;(case hd=>rfl);(case hg=>rfl);(case hr=>exact GS);(case hp=>exact (Reps.one (show Kd.M (Kd.int .i64) _ _ _ x4_1 [.int .i64 x4_1] from rfl) (Reps.one (show Kd.M (Kd.int .i64) _ _ _ x5_2 [.int .i64 x5_2] from rfl) (Reps.one (show Kd.M (Kd.int .i64) _ _ _ x6_3 [.int .i64 x6_3] from rfl) (Reps.none _ _)))));intro v162 w18 ho19 hb hg_ hnew_;clear hg_ hnew_;(first|rw [← Ny161.out] at ho19|(simp only [Int.reduceToNat] at ho19;rw [← Ny161.out] at ho19));replace HO_3:=SO HO_3 ho19 hb;have HO163:=AM (Kd.R_lower ho19 (BZ BB));replace HB:=HS hb;clear hb ho19;obtain ⟨Ao21,co21,eo21⟩:=Kd.R_slice HO163.out;subst eo21)|((with_reducible refine gate_builtin (b:=.append) (xs:=#[.tmp 45,.tmp 50]) rfl ?_);at_builtin;refine Kd.S_append (Kd.slice 3 (Kd.int .i64)) (w0:=w) w.heap.size rfl (.tmp 45) (.tmp 50) 22 24 (.slice none 0 0) 24 rfl Try.underlying22 info24 rfl (by decide) (by omega) u3 x3_3 y161 [.slice Ao21 y161.length co21] (fun _=>True) (fun k_=>some k_ = (.slice Ao21 y161.length co21 : Value).ownBlock) rfl rfl ?aP (fun k_ hk_=>((Kd.R_mono (ok':=fun k_=>((fun _=>True)) k_∧some k_≠(u3 : Value).ownBlock) (Kd.R_apart' (HO163.out) (Kd.S_typed HO_3.out) (by decide)) (fun k_ hk=>⟨trivial,hk.2⟩))).1 k_ hk_.symm) ?aF ?aO ?aB ?aS ?aL ?_;(case aP=>exact Kd.M_row (Kd.R_mono (Kd.R_tight rfl (Kd.R_mono (ok':=fun k_=>((fun _=>True)) k_∧some k_≠(u3 : Value).ownBlock) (Kd.R_apart' (HO163.out) (Kd.S_typed HO_3.out) (by decide)) (fun k_ hk=>⟨trivial,hk.2⟩))) (fun _ h_=>h_)));(case aB=>exact BB);(case aF=>exact (fun _ _=>trivial));(case aO=>exact (by (with_reducible repeat (first|apply Kd.S_alloc|apply Kd.S_drewN|apply Kd.S_drew));exact Kd.S_mono HO_3.out (fun k_ hk=>⟨trivial,fun e_=>hk.2 e_⟩)));(case aS=>exact (BZ BB));(case aL=>have:=LMc14.out;omega);intro v165 w20 ho hb hg hat;rw [← Ny164.out] at ho;replace HB:=AM hb;have HO166:=AM ho;clear HO_3 HO163;clear ho hb hg hat));go_roundg k3
             case measure=>have:=HK1.out;have:=HK2.out;have:=HK3.out;omega
             case rel=>exact ⟨(y164),(wrap64 (x6_3 + 1)),RF,H',⟨by have:=HK1.out;have:=HK2.out;have:=HK3.out;omega⟩,⟨KS HO166⟩,⟨BB⟩⟩
            ·replace c13:=NF c13;subst c13;replace H:=IN H;have H':=AM H;clear H;go_wp2_with (first|(refine GC 27 ?_;refine GM (some 25) Try.func27 (spec_meCount.calls a0 t157 _ A6.out) ?_;rintro e w' ⟨rfl,⟨nd,rfl⟩⟩;refine ⟨_,rfl,?_⟩)|(refine GC 33 ?_;refine GM (some 32) Try.func33 (spec_meNear.calls k3 a0 x4_1 x5_2 true _ A8.out) ?_;rintro e w22 ⟨rfl,hb⟩;refine ⟨_,rfl,?_⟩;replace HO_3:=SB HO_3 hb;replace HB:=HS hb;try clear hb)|(go_at_call 33;(with_reducible refine (spec_meNear.calls k3 a0 x4_1 x6_3 true _ A10.out).mono ?_);rintro e w23 ⟨rfl,hb⟩;replace HO_3:=SB HO_3 hb;replace HB:=HS hb;try clear hb)|(go_at_call 33;(with_reducible refine (spec_meNear.calls k3 a0 x5_2 x6_3 false _ A12.out).mono ?_);rintro e w24 ⟨rfl,hb⟩;replace HO_3:=SB HO_3 hb;replace HB:=HS hb;try clear hb));go_roundg k3
             case measure=>have:=HK1.out;have:=HK2.out;have:=HK3.out;omega
             case rel=>exact ⟨(x3_3),(wrap64 (x6_3 + 1)),RF,H',⟨by have:=HK1.out;have:=HK2.out;have:=HK3.out;omega⟩,⟨KS HO_3⟩,⟨BB⟩⟩
           ·replace c11:=NF c11;subst c11;replace H:=IN H;have H':=AM H;clear H;go_wp2_with (first|(refine GC 27 ?_;refine GM (some 25) Try.func27 (spec_meCount.calls a0 t157 _ A6.out) ?_;rintro e w' ⟨rfl,⟨nd,rfl⟩⟩;refine ⟨_,rfl,?_⟩)|(refine GC 33 ?_;refine GM (some 32) Try.func33 (spec_meNear.calls k3 a0 x4_1 x5_2 true _ A8.out) ?_;rintro e w25 ⟨rfl,hb⟩;refine ⟨_,rfl,?_⟩;replace HO_3:=SB HO_3 hb;replace HB:=HS hb;try clear hb)|(go_at_call 33;(with_reducible refine (spec_meNear.calls k3 a0 x4_1 x6_3 false _ A10.out).mono ?_);rintro e w26 ⟨rfl,hb⟩;replace HO_3:=SB HO_3 hb;replace HB:=HS hb;try clear hb));go_roundg k3
            case measure=>have:=HK1.out;have:=HK2.out;have:=HK3.out;omega
            case rel=>exact ⟨(x3_3),(wrap64 (x6_3 + 1)),RF,H',⟨by have:=HK1.out;have:=HK2.out;have:=HK3.out;omega⟩,⟨KS HO_3⟩,⟨BB⟩⟩
          ·replace c9:=NF c9;subst c9;replace H:=IN H;have H':=AM H;clear H;go_wp2_with (first|(refine GC 27 ?_;refine GM (some 25) Try.func27 (spec_meCount.calls a0 t157 _ A6.out) ?_;rintro e w' ⟨rfl,⟨nd,rfl⟩⟩;refine ⟨_,rfl,?_⟩)|(refine GC 33 ?_;refine GM (some 32) Try.func33 (spec_meNear.calls k3 a0 x4_1 x5_2 false _ A8.out) ?_;rintro e w27 ⟨rfl,hb⟩;refine ⟨_,rfl,?_⟩;replace HO_3:=SB HO_3 hb;replace HB:=HS hb;try clear hb));go_roundg k3
           case measure=>have:=HK1.out;have:=HK2.out;have:=HK3.out;omega
           case rel=>exact ⟨(x3_3),(wrap64 (x6_3 + 1)),RF,H',⟨by have:=HK1.out;have:=HK2.out;have:=HK3.out;omega⟩,⟨KS HO_3⟩,⟨BB⟩⟩
         ·rw [if_neg c7] at H;have c7b0:=DF c7;clear c7;have H':=AM H;clear H;go_wp2_with (first|(refine GC 27 ?_;refine GM (some 25) Try.func27 (spec_meCount.calls a0 t157 _ A6.out) ?_;rintro e w' ⟨rfl,⟨nd,rfl⟩⟩;refine ⟨_,rfl,?_⟩));go_roundg k3
          case measure=>have:=HK1.out;have:=HK2.out;have:=HK3.out;omega
          case rel=>exact ⟨(x3_3),(wrap64 (x5_2 + 1)),RF,H',⟨by have:=HK1.out;have:=HK2.out;have:=HK3.out;omega⟩,⟨KS HO_3⟩,⟨BB⟩⟩
      ·rw [if_neg c5] at H;have c5b0:=DF c5;clear c5;have H':=AM H;clear H;go_wp2_with (first|(refine GC 27 ?_;refine GM (some 17) Try.func27 (spec_meCount.calls a0 t156 _ A4.out) ?_;rintro e w' ⟨rfl,⟨nd,rfl⟩⟩;refine ⟨_,rfl,?_⟩));go_roundg k2
       case measure=>have:=HK1.out;have:=HK2.out;omega
       case rel=>exact ⟨(x3_2),(wrap64 (x4_1 + 1)),RF,H',⟨by have:=HK1.out;have:=HK2.out;omega⟩,⟨KS HO_3⟩,⟨BB⟩⟩
   ·rw [if_neg c3] at H;have c3b0:=DF c3;clear c3;obtain rfl:=Option.some.inj H;go_wp2_with (first|(refine GC 27 ?_;refine GM (some 9) Try.func27 (spec_meCount.calls a0 t155 _ A2.out) ?_;rintro e w' ⟨rfl,⟨nd,rfl⟩⟩;refine ⟨_,rfl,?_⟩));go_ret;exact ⟨_,RE,KS HO_3,BB⟩

/-! ### spec_meLabels: function 29 -/
def spec_meLabels.f (k : Nat) (a0 : Int) (l1 : List Int) : Option (Bool):=(spec_meSide.f a0).bind fun t167=>(if t167 = true then ((spec_meCount.f a0).bind fun t168=>(if (l1.length : Int) = t168 then ((spec_l1All.f k l1 0 2).bind fun t169=>(some t169)) else (some false))) else (some false))
theorem spec_meLabels.mono : ∀ a0 a1 k,LeO (spec_meLabels.f k a0 a1) (spec_meLabels.f (k + 1) a0 a1):=by
 intro a0 a1 k;unfold spec_meLabels.f
 have m0:=@spec_l1All.mono
 exact MO
theorem spec_meLabels.calls (k : Nat) (a0 : Int) (A1 : Option Addr) (c1 : Nat) (l1 : List Int) (r : Bool) (w : World) (hr1 : Kd.C (Kd.int .i64) w A1 l1.length l1) (hc1 : l1.length ≤ c1) (h : spec_meLabels.f k a0 l1 = some r) :
  Calls Try.prog 29 #[.int .i64 a0,.slice A1 l1.length c1] w fun e w'=>e = .returned (.bool r)∧Drawn0 w w':=by
 have HR1:=AM hr1;have HC1:=AM hc1;clear hr1 hc1;have H : ((spec_meSide.f a0).bind fun t167=>(if t167 = true then ((spec_meCount.f a0).bind fun t168=>(if (l1.length : Int) = t168 then ((spec_l1All.f k l1 0 2).bind fun t169=>(some t169)) else (some false))) else (some false))) = some r:=h;clear h;replace H:=EA H;obtain ⟨t167,A3,H⟩:=H;by_cases c4 : t167 = true
 ·subst c4;replace H:=IP H;replace H:=EA H;obtain ⟨t168,A5,H⟩:=H;by_cases c6 : (l1.length : Int) = t168
  ·rw [if_pos c6] at H;have c6b0:=QT c6;have c6b1:=bne_eq_false_iff_eq.mpr c6;clear c6;replace H:=EA H;obtain ⟨t169,A7,H⟩:=H;obtain rfl:=Option.some.inj H;go_enter Try.func29,Try.ntmps29;go_wp2_with (first|(refine GC 25 ?_;refine GM (some 6) Try.func25 (spec_meSide.calls a0 true _ A3.out) ?_;rintro e w' ⟨rfl,⟨nd,rfl⟩⟩;refine ⟨_,rfl,?_⟩)|(go_at_call 27;(with_reducible refine (spec_meCount.calls a0 t168 _ A5.out).mono ?_);rintro e w' ⟨rfl,⟨nd,rfl⟩⟩)|(go_at_call 26;(with_reducible refine (spec_l1All.calls k _ _ l1 0 2 t169 _ (CW HR1.out) HC1.out A7.out).mono ?_);rintro e w' ⟨rfl,⟨nd,rfl⟩⟩));go_ret;exact ⟨RF,DR⟩
  ·rw [if_neg c6] at H;have c6b0:=beq_eq_false_iff_ne.mpr c6;have c6b1:=bne_iff_ne.mpr c6;obtain rfl:=Option.some.inj H;go_enter Try.func29,Try.ntmps29;go_wp2_with (first|(refine GC 25 ?_;refine GM (some 6) Try.func25 (spec_meSide.calls a0 true _ A3.out) ?_;rintro e w' ⟨rfl,⟨nd,rfl⟩⟩;refine ⟨_,rfl,?_⟩)|(go_at_call 27;(with_reducible refine (spec_meCount.calls a0 t168 _ A5.out).mono ?_);rintro e w' ⟨rfl,⟨nd,rfl⟩⟩));go_ret;exact ⟨RF,DR⟩
 ·replace c4:=NF c4;subst c4;replace H:=IN H;obtain rfl:=Option.some.inj H;go_enter Try.func29,Try.ntmps29;go_wp2_with (first|(refine GC 25 ?_;refine GM (some 6) Try.func25 (spec_meSide.calls a0 false _ A3.out) ?_;rintro e w' ⟨rfl,⟨nd,rfl⟩⟩;refine ⟨_,rfl,?_⟩));go_ret;exact ⟨RF,DR⟩

/-! ### spec_meIndex: function 54 -/
def spec_meIndex.f (a0 : Int) (l1 : List Int) : Option (Int):=if 0 < (l1.length : Int) then (if 2 < (l1.length : Int) then (some (wrap64 ((wrap64 (Int.tdiv (wrap64 ((wrap64 (a0 - (rd l1 0))) * (wrap64 ((wrap64 (a0 - (rd l1 0))) + 1)))) 2)) + (rd l1 2)))) else (none)) else (none)
theorem spec_meIndex.calls (a0 : Int) (A1 : Option Addr) (c1 : Nat) (l1 : List Int) (r : Int) (w : World) (hr1 : Kd.C (Kd.int .i64) w A1 l1.length l1) (hc1 : l1.length ≤ c1) (h : spec_meIndex.f a0 l1 = some r) :
  Calls Try.prog 54 #[.int .i64 a0,.slice A1 l1.length c1] w fun e w'=>e = .returned (.int .i64 r)∧Drawn0 w w':=by
 have HR1:=AM hr1;have HC1:=AM hc1;clear hr1 hc1;have H : (if 0 < (l1.length : Int) then (if 2 < (l1.length : Int) then (some (wrap64 ((wrap64 (Int.tdiv (wrap64 ((wrap64 (a0 - (rd l1 0))) * (wrap64 ((wrap64 (a0 - (rd l1 0))) + 1)))) 2)) + (rd l1 2)))) else (none)) else (none)) = some r:=h;clear h;replace H:=IC H;obtain ⟨c3,H⟩:=H;have c3b0:=DT c3;have c3b1 : decide (0 < l1.length) = true:=DT (by omega);clear c3;replace H:=IC H;obtain ⟨c4,H⟩:=H;have c4b0:=DT c4;have c4b1 : decide (2 < l1.length) = true:=DT (by omega);clear c4;obtain rfl:=Option.some.inj H;have p170 : 0 ≤ (0 : Int):=(by omega);have q170 : 0 < (l1.length : Int):=OD AS;obtain ⟨ad170,e170,hx170_0⟩:=Kd.at_int HR1.out 0 p170 q170;cases e170;have qi170 : (0 < l1.length) = True:=ET (by omega)
 (try rw [show ((0 : Int)).toNat = 0 from rfl] at hx170_0)
 (try rw [Addr.add_zero'] at hx170_0);replace p170:=ET p170;replace q170:=ET q170;have p171 : 0 ≤ (2 : Int):=(by omega);have q171 : 2 < (l1.length : Int):=OD AS;obtain ⟨ad171,e171,hx171_0⟩:=Kd.at_int HR1.out 2 p171 q171;obtain rfl : ad170 = ad171:=(by injection e171)
 (try simp only [show (2 : Int).toNat = 2 from rfl,Nat.reduceMul,Nat.reduceEqDiff,Go.Addr.add,↓reduceIte] at hx171_0);have qi171 : (2 < l1.length) = True:=ET (by omega)
 (try rw [show ((2 : Int)).toNat = 2 from rfl] at hx171_0);replace p171:=ET p171;replace q171:=ET q171;go_enter Try.func54,Try.ntmps54;go_wp2;go_ret;exact ⟨RF,DR⟩

/-! ### spec_meBorder: function 42 -/
mutual
def spec_meBorder.l0 : Nat→Int→List Int→Int→Option (List Int)
 | 0,_,_,_=>none
 | k + 1,x0,x3,x4=>if x4 < x0 then ((spec_meIndex.f x0 (([wrap64 (x0 - x4),x4,0] : List Int))).bind fun t175=>(if x3.length < 17592186044416 then (spec_meBorder.l0 k x0 (x3 ++ [t175]) (wrap64 (x4 + 1))) else (none))) else (spec_meBorder.l1 k x0 x3 0)
def spec_meBorder.l1 : Nat→Int→List Int→Int→Option (List Int)
 | 0,_,_,_=>none
 | k + 1,x0,x3,x5=>if x5 < x0 then ((spec_meIndex.f x0 (([0,wrap64 (x0 - x5),x5] : List Int))).bind fun t182=>(if x3.length < 17592186044416 then (spec_meBorder.l1 k x0 (x3 ++ [t182]) (wrap64 (x5 + 1))) else (none))) else (spec_meBorder.l2 k x0 x3 0)
def spec_meBorder.l2 : Nat→Int→List Int→Int→Option (List Int)
 | 0,_,_,_=>none
 | k + 1,x0,x3,x6=>if x6 < x0 then ((spec_meIndex.f x0 (([x6,0,wrap64 (x0 - x6)] : List Int))).bind fun t189=>(if x3.length < 17592186044416 then (spec_meBorder.l2 k x0 (x3 ++ [t189]) (wrap64 (x6 + 1))) else (none))) else (some x3)
end
def spec_meBorder.f (k : Nat) (a0 : Int) : Option (List Int):=spec_meBorder.l0 k a0 ([] : List Int) 0
theorem spec_meBorder.mono_l : ∀ k,(∀ y0 y1 y2,LeO (spec_meBorder.l0 k y0 y1 y2) (spec_meBorder.l0 (k + 1) y0 y1 y2))∧(∀ y0 y1 y2,LeO (spec_meBorder.l1 k y0 y1 y2) (spec_meBorder.l1 (k + 1) y0 y1 y2))∧(∀ y0 y1 y2,LeO (spec_meBorder.l2 k y0 y1 y2) (spec_meBorder.l2 (k + 1) y0 y1 y2))
 | 0=>⟨fun _ _ _=>LZ,fun _ _ _=>LZ,fun _ _ _=>LZ⟩
 | k + 1=>by
  obtain ⟨ih0,ih1,ih2⟩:=spec_meBorder.mono_l k
  refine ⟨?_,?_,?_⟩ <;> intros
  all_goals (first|unfold spec_meBorder.l0|unfold spec_meBorder.l1|unfold spec_meBorder.l2)
  all_goals exact MO
theorem spec_meBorder.mono : ∀ a0 k,LeO (spec_meBorder.f k a0) (spec_meBorder.f (k + 1) a0):=by
 intro a0 k;obtain ⟨ih0,ih1,ih2⟩:=spec_meBorder.mono_l k;unfold spec_meBorder.f
 exact MO
theorem spec_meBorder.calls (k : Nat) (a0 : Int) (r : List Int) (w : World) (h : spec_meBorder.f k a0 = some r) :
  Calls Try.prog 42 #[.int .i64 a0] w fun e w'=>∃ v0_ : Value,e = .returned (v0_)∧Kd.R (Kd.int .i64) 3 w' w.heap.size (fun _=>True) v0_ r∧Below w.heap.size w w':=by
 have HB:=HRf w;have H : (spec_meBorder.l0 k a0 ([] : List Int) 0) = some r:=h;clear h;have H':=AM H;clear H;go_enter Try.func42,Try.ntmps42;go_wp2;go_loopg [3,4] k (fun kq v3 v4 w'=>∃ (x3_1 : List Int) (x4_1 : Int),v4 = .int .i64 x4_1∧Aside0 (spec_meBorder.l0 kq a0 x3_1 x4_1 = some r)∧Aside0 (kq ≤ k)∧Aside0 (Kd.R (Kd.int .i64) 3 w' w.heap.size (fun _=>True) v3 x3_1)∧Aside0 (Below w.heap.size w w'))
 case atStart=>exact ⟨(([] : List Int)),(0),RF,H',⟨Nat.le_refl _⟩,⟨by first|exact Kd.R_nil _ _ _ _ _|exact Kd.N_nil _ _ _ _ _|exact Kd.V_nil _ _ _ _ _|exact Kd.Q_nil _ _ _ _ _|exact Kd.S_nil _ _ _ _ _⟩,⟨BB⟩⟩
 case round =>
  clear H';obtain ⟨x3_1,x4_1,rfl,HA,HK1,HO_3,HB⟩:=hrel;cases gk with
  | zero=>exact absurd HA.out (by simp [spec_meBorder.l0])
  | succ k1 =>
   have H:=HA.out;clear HA;simp only [spec_meBorder.l0] at H;by_cases c2 : x4_1 < a0
   ·rw [if_pos c2] at H;have c2b0:=DT c2;clear c2;obtain ⟨y172,hy172⟩ : ∃ y_ : List Int,y_ = (([wrap64 (a0 - x4_1),x4_1,0] : List Int)):=⟨_,rfl⟩;replace H : ((spec_meIndex.f a0 y172).bind fun t175=>(if x3_1.length < 17592186044416 then (spec_meBorder.l0 k1 a0 (x3_1 ++ [t175]) (wrap64 (x4_1 + 1))) else (none))) = some r:=HY H hy172;have Ny172:=AM hy172;clear hy172;replace H:=EA H;obtain ⟨t175,A3,H⟩:=H;replace H:=IC H;obtain ⟨c4,H⟩:=H;have LMc4:=AM c4;clear c4;obtain ⟨y176,hy176⟩ : ∃ y_ : List Int,y_ = (x3_1 ++ [t175]):=⟨_,rfl⟩;replace H : (spec_meBorder.l0 k1 a0 y176 (wrap64 (x4_1 + 1))) = some r:=HY H hy176;have Ny176:=AM hy176;clear hy176;have H':=AM H;clear H;go_wp2_with (first|((with_reducible refine gate_dst (N:=18) rfl ?_);refine Kd.R_lit (Kd.int .i64) _ 3 ?hg (N:=18) ?hd (xs:=([wrap64 (a0 - x4_1),x4_1,0] : List Int)) (inner:=[.int .i64 (wrap64 (a0 - x4_1)),.int .i64 x4_1,.int .i64 0]) (ok:=fun _=>True) (okp:=fun _=>True) ?hr ?hp (fun _ hk=>hk) trivial (Below.refl _ _) (Nat.le_refl _) (by simp) ?_;(case hd=>rfl);(case hg=>rfl);(case hr=>exact GS);(case hp=>exact (Reps.one (show Kd.M (Kd.int .i64) _ _ _ (wrap64 (a0 - x4_1)) [.int .i64 (wrap64 (a0 - x4_1))] from rfl) (Reps.one (show Kd.M (Kd.int .i64) _ _ _ x4_1 [.int .i64 x4_1] from rfl) (Reps.one (show Kd.M (Kd.int .i64) _ _ _ 0 [.int .i64 0] from rfl) (Reps.none _ _)))));intro v173 w5 ho6 hb hg_ hnew_;clear hg_ hnew_;(first|rw [← Ny172.out] at ho6|(simp only [Int.reduceToNat] at ho6;rw [← Ny172.out] at ho6));have HO174:=AM (Kd.R_lower (Kd.R_new' ho6 (Kd.R_lt (KR HO_3))) (BZ BB));replace HO_3:=RO HO_3 ho6 hb;replace HB:=HS hb;clear hb ho6;obtain ⟨Ao7,co7,eo7⟩:=Kd.R_slice HO174.out;subst eo7)|(refine GC 54 ?_;refine GM (some 19) Try.func54 (spec_meIndex.calls a0 _ _ y172 t175 _ (CW (Kd.R_reads' HO174.out).2.2) ((Kd.R_reads' HO174.out).2.1) A3.out) ?_;rintro e w' ⟨rfl,⟨nd,rfl⟩⟩;refine ⟨_,rfl,?_⟩)|((with_reducible refine gate_builtin (b:=.append) (xs:=#[.tmp 12,.tmp 20]) rfl ?_);at_builtin;refine Kd.R_append (Kd.int .i64) (w0:=w) w.heap.size rfl (.tmp 12) (.tmp 20) 24 3 (.int .i64 0) 8 rfl Try.underlying24 info3 rfl (by decide) (by omega) u3 x3_1 t175 [.int .i64 t175] (fun k_=>some k_≠(.slice Ao7 y172.length co7 : Value).ownBlock) (fun _=>False) rfl rfl ?aP (fun _ hk=>hk.elim) ?aF ?aO ?aB ?aS ?aL ?_;(case aP=>exact rfl);(case aB=>exact BB);(case aF=>exact (fun k_ hk=>Kd.fresh' (Kd.R_lt (KR HO174)) k_ hk));(case aO=>exact (by (with_reducible repeat (first|apply Kd.R_alloc|apply Kd.R_drewN|apply Kd.R_drew));exact Kd.R_mono HO_3.out (fun _ hk=>hk.2)));(case aS=>exact (BZ BB));(case aL=>have:=LMc4.out;omega);intro v177 w8 ho hb hg hat;rw [← Ny176.out] at ho;replace HO174:=AM (Kd.R_after (ok:=(fun _=>True)) (KR HO174) hg hat);replace HB:=AM hb;have HO178:=AM ho;clear HO_3;clear ho hb hg hat));go_roundg k1
    case measure=>have:=HK1.out;omega
    case rel=>exact ⟨(y176),(wrap64 (x4_1 + 1)),RF,H',⟨by have:=HK1.out;omega⟩,⟨by (with_reducible repeat (first|apply Kd.R_alloc|apply Kd.R_drewN|apply Kd.R_drew));exact Kd.R_mono HO178.out (fun _ hk=>trivial)⟩,⟨BB⟩⟩
   ·rw [if_neg c2] at H;have c2b0:=DF c2;clear c2;have H':=AM H;clear H;go_wp2;go_loopg [3,5] k1 (fun kq v3 v5 w'=>∃ (x3_2 : List Int) (x5_2 : Int),v5 = .int .i64 x5_2∧Aside0 (spec_meBorder.l1 kq a0 x3_2 x5_2 = some r)∧Aside0 (kq ≤ k1)∧Aside0 (Kd.R (Kd.int .i64) 3 w' w.heap.size (fun _=>True) v3 x3_2)∧Aside0 (Below w.heap.size w w'))
    case atStart=>exact ⟨(x3_1),(0),RF,H',⟨Nat.le_refl _⟩,⟨KR HO_3⟩,⟨BB⟩⟩
    case round =>
     clear H';try clear c2
     try clear c2b0
     try clear p2
     try clear c4
     try clear c5
     try clear p6
     obtain ⟨x3_2,x5_2,rfl,HA,HK2,HO_3,HB⟩:=hrel;cases gk with
     | zero=>exact absurd HA.out (by simp [spec_meBorder.l1])
     | succ k2 =>
      have H:=HA.out;clear HA;simp only [spec_meBorder.l1] at H;by_cases c9 : x5_2 < a0
      ·rw [if_pos c9] at H;have c9b0:=DT c9;clear c9;obtain ⟨y179,hy179⟩ : ∃ y_ : List Int,y_ = (([0,wrap64 (a0 - x5_2),x5_2] : List Int)):=⟨_,rfl⟩;replace H : ((spec_meIndex.f a0 y179).bind fun t182=>(if x3_2.length < 17592186044416 then (spec_meBorder.l1 k2 a0 (x3_2 ++ [t182]) (wrap64 (x5_2 + 1))) else (none))) = some r:=HY H hy179;have Ny179:=AM hy179;clear hy179;replace H:=EA H;obtain ⟨t182,A10,H⟩:=H;replace H:=IC H;obtain ⟨c11,H⟩:=H;have LMc11:=AM c11;clear c11;obtain ⟨y183,hy183⟩ : ∃ y_ : List Int,y_ = (x3_2 ++ [t182]):=⟨_,rfl⟩;replace H : (spec_meBorder.l1 k2 a0 y183 (wrap64 (x5_2 + 1))) = some r:=HY H hy183;have Ny183:=AM hy183;clear hy183;have H':=AM H;clear H;go_wp2_with (first|((with_reducible refine gate_dst (N:=33) rfl ?_);refine Kd.R_lit (Kd.int .i64) _ 3 ?hg (N:=33) ?hd (xs:=([0,wrap64 (a0 - x5_2),x5_2] : List Int)) (inner:=[.int .i64 0,.int .i64 (wrap64 (a0 - x5_2)),.int .i64 x5_2]) (ok:=fun _=>True) (okp:=fun _=>True) ?hr ?hp (fun _ hk=>hk) trivial (Below.refl _ _) (Nat.le_refl _) (by simp) ?_;(case hd=>rfl);(case hg=>rfl);(case hr=>exact GS);(case hp=>exact (Reps.one (show Kd.M (Kd.int .i64) _ _ _ 0 [.int .i64 0] from rfl) (Reps.one (show Kd.M (Kd.int .i64) _ _ _ (wrap64 (a0 - x5_2)) [.int .i64 (wrap64 (a0 - x5_2))] from rfl) (Reps.one (show Kd.M (Kd.int .i64) _ _ _ x5_2 [.int .i64 x5_2] from rfl) (Reps.none _ _)))));intro v180 w12 ho13 hb hg_ hnew_;clear hg_ hnew_;(first|rw [← Ny179.out] at ho13|(simp only [Int.reduceToNat] at ho13;rw [← Ny179.out] at ho13));have HO181:=AM (Kd.R_lower (Kd.R_new' ho13 (Kd.R_lt (KR HO_3))) (BZ BB));replace HO_3:=RO HO_3 ho13 hb;replace HB:=HS hb;clear hb ho13;obtain ⟨Ao14,co14,eo14⟩:=Kd.R_slice HO181.out;subst eo14)|(refine GC 54 ?_;refine GM (some 34) Try.func54 (spec_meIndex.calls a0 _ _ y179 t182 _ (CW (Kd.R_reads' HO181.out).2.2) ((Kd.R_reads' HO181.out).2.1) A10.out) ?_;rintro e w' ⟨rfl,⟨nd,rfl⟩⟩;refine ⟨_,rfl,?_⟩)|((with_reducible refine gate_builtin (b:=.append) (xs:=#[.tmp 27,.tmp 35]) rfl ?_);at_builtin;refine Kd.R_append (Kd.int .i64) (w0:=w) w.heap.size rfl (.tmp 27) (.tmp 35) 24 3 (.int .i64 0) 8 rfl Try.underlying24 info3 rfl (by decide) (by omega) u3 x3_2 t182 [.int .i64 t182] (fun k_=>some k_≠(.slice Ao14 y179.length co14 : Value).ownBlock) (fun _=>False) rfl rfl ?aP (fun _ hk=>hk.elim) ?aF ?aO ?aB ?aS ?aL ?_;(case aP=>exact rfl);(case aB=>exact BB);(case aF=>exact (fun k_ hk=>Kd.fresh' (Kd.R_lt (KR HO181)) k_ hk));(case aO=>exact (by (with_reducible repeat (first|apply Kd.R_alloc|apply Kd.R_drewN|apply Kd.R_drew));exact Kd.R_mono HO_3.out (fun _ hk=>hk.2)));(case aS=>exact (BZ BB));(case aL=>have:=LMc11.out;omega);intro v184 w15 ho hb hg hat;rw [← Ny183.out] at ho;replace HO181:=AM (Kd.R_after (ok:=(fun _=>True)) (KR HO181) hg hat);replace HB:=AM hb;have HO185:=AM ho;clear HO_3;clear ho hb hg hat));go_roundg k2
       case measure=>have:=HK1.out;have:=HK2.out;omega
       case rel=>exact ⟨(y183),(wrap64 (x5_2 + 1)),RF,H',⟨by have:=HK1.out;have:=HK2.out;omega⟩,⟨by (with_reducible repeat (first|apply Kd.R_alloc|apply Kd.R_drewN|apply Kd.R_drew));exact Kd.R_mono HO185.out (fun _ hk=>trivial)⟩,⟨BB⟩⟩
      ·rw [if_neg c9] at H;have c9b0:=DF c9;clear c9;have H':=AM H;clear H;go_wp2;go_loopg [3,6] k2 (fun kq v3 v6 w'=>∃ (x3_3 : List Int) (x6_3 : Int),v6 = .int .i64 x6_3∧Aside0 (spec_meBorder.l2 kq a0 x3_3 x6_3 = some r)∧Aside0 (kq ≤ k2)∧Aside0 (Kd.R (Kd.int .i64) 3 w' w.heap.size (fun _=>True) v3 x3_3)∧Aside0 (Below w.heap.size w w'))
       case atStart=>exact ⟨(x3_2),(0),RF,H',⟨Nat.le_refl _⟩,⟨KR HO_3⟩,⟨BB⟩⟩
       case round =>
        clear H';try clear c1
        try clear c2
        try clear c2b0
        try clear p2
        try clear c4
        try clear c5
        try clear p6
        try clear c9
        try clear c9b0
        try clear c11
        try clear p2
        try clear p6
        obtain ⟨x3_3,x6_3,rfl,HA,HK3,HO_3,HB⟩:=hrel;cases gk with
        | zero=>exact absurd HA.out (by simp [spec_meBorder.l2])
        | succ k3 =>
         have H:=HA.out;clear HA;simp only [spec_meBorder.l2] at H;by_cases c16 : x6_3 < a0
         ·rw [if_pos c16] at H;have c16b0:=DT c16;clear c16;obtain ⟨y186,hy186⟩ : ∃ y_ : List Int,y_ = (([x6_3,0,wrap64 (a0 - x6_3)] : List Int)):=⟨_,rfl⟩;replace H : ((spec_meIndex.f a0 y186).bind fun t189=>(if x3_3.length < 17592186044416 then (spec_meBorder.l2 k3 a0 (x3_3 ++ [t189]) (wrap64 (x6_3 + 1))) else (none))) = some r:=HY H hy186;have Ny186:=AM hy186;clear hy186;replace H:=EA H;obtain ⟨t189,A17,H⟩:=H;replace H:=IC H;obtain ⟨c18,H⟩:=H;have LMc18:=AM c18;clear c18;obtain ⟨y190,hy190⟩ : ∃ y_ : List Int,y_ = (x3_3 ++ [t189]):=⟨_,rfl⟩;replace H : (spec_meBorder.l2 k3 a0 y190 (wrap64 (x6_3 + 1))) = some r:=HY H hy190;have Ny190:=AM hy190;clear hy190;have H':=AM H;clear H;go_wp2_with (first|((with_reducible refine gate_dst (N:=48) rfl ?_);refine Kd.R_lit (Kd.int .i64) _ 3 ?hg (N:=48) ?hd (xs:=([x6_3,0,wrap64 (a0 - x6_3)] : List Int)) (inner:=[.int .i64 x6_3,.int .i64 0,.int .i64 (wrap64 (a0 - x6_3))]) (ok:=fun _=>True) (okp:=fun _=>True) ?hr ?hp (fun _ hk=>hk) trivial (Below.refl _ _) (Nat.le_refl _) (by simp) ?_;(case hd=>rfl);(case hg=>rfl);(case hr=>exact GS);(case hp=>exact (Reps.one (show Kd.M (Kd.int .i64) _ _ _ x6_3 [.int .i64 x6_3] from rfl) (Reps.one (show Kd.M (Kd.int .i64) _ _ _ 0 [.int .i64 0] from rfl) (Reps.one (show Kd.M (Kd.int .i64) _ _ _ (wrap64 (a0 - x6_3)) [.int .i64 (wrap64 (a0 - x6_3))] from rfl) (Reps.none _ _)))));intro v187 w19 ho20 hb hg_ hnew_;clear hg_ hnew_;(first|rw [← Ny186.out] at ho20|(simp only [Int.reduceToNat] at ho20;rw [← Ny186.out] at ho20));have HO188:=AM (Kd.R_lower (Kd.R_new' ho20 (Kd.R_lt (KR HO_3))) (BZ BB));replace HO_3:=RO HO_3 ho20 hb;replace HB:=HS hb;clear hb ho20;obtain ⟨Ao21,co21,eo21⟩:=Kd.R_slice HO188.out;subst eo21)|(refine GC 54 ?_;refine GM (some 49) Try.func54 (spec_meIndex.calls a0 _ _ y186 t189 _ (CW (Kd.R_reads' HO188.out).2.2) ((Kd.R_reads' HO188.out).2.1) A17.out) ?_;rintro e w' ⟨rfl,⟨nd,rfl⟩⟩;refine ⟨_,rfl,?_⟩)|((with_reducible refine gate_builtin (b:=.append) (xs:=#[.tmp 42,.tmp 50]) rfl ?_);at_builtin;refine Kd.R_append (Kd.int .i64) (w0:=w) w.heap.size rfl (.tmp 42) (.tmp 50) 24 3 (.int .i64 0) 8 rfl Try.underlying24 info3 rfl (by decide) (by omega) u3 x3_3 t189 [.int .i64 t189] (fun k_=>some k_≠(.slice Ao21 y186.length co21 : Value).ownBlock) (fun _=>False) rfl rfl ?aP (fun _ hk=>hk.elim) ?aF ?aO ?aB ?aS ?aL ?_;(case aP=>exact rfl);(case aB=>exact BB);(case aF=>exact (fun k_ hk=>Kd.fresh' (Kd.R_lt (KR HO188)) k_ hk));(case aO=>exact (by (with_reducible repeat (first|apply Kd.R_alloc|apply Kd.R_drewN|apply Kd.R_drew));exact Kd.R_mono HO_3.out (fun _ hk=>hk.2)));(case aS=>exact (BZ BB));(case aL=>have:=LMc18.out;omega);intro v191 w22 ho hb hg hat;rw [← Ny190.out] at ho;replace HO188:=AM (Kd.R_after (ok:=(fun _=>True)) (KR HO188) hg hat);replace HB:=AM hb;have HO192:=AM ho;clear HO_3;clear ho hb hg hat));go_roundg k3
          case measure=>have:=HK1.out;have:=HK2.out;have:=HK3.out;omega
          case rel=>exact ⟨(y190),(wrap64 (x6_3 + 1)),RF,H',⟨by have:=HK1.out;have:=HK2.out;have:=HK3.out;omega⟩,⟨by (with_reducible repeat (first|apply Kd.R_alloc|apply Kd.R_drewN|apply Kd.R_drew));exact Kd.R_mono HO192.out (fun _ hk=>trivial)⟩,⟨BB⟩⟩
         ·rw [if_neg c16] at H;have c16b0:=DF c16;clear c16;obtain rfl:=Option.some.inj H;go_wp2;go_ret;exact ⟨_,RE,KR HO_3,BB⟩

/-! ### spec_doDoor: function 43 -/
def spec_doDoor.f (l0 : List Int) (a1 : Int) (a2 : Int) : Option (Bool):=if 0 ≤ a1 then (if a1 < (l0.length : Int) then (if 0 ≤ a2 then (if a2 < (l0.length : Int) then (some ((wrap64 ((rd l0 a1) + (rd l0 a2))) == 1)) else (none)) else (none)) else (none)) else (none)
theorem spec_doDoor.calls (A0 : Option Addr) (c0 : Nat) (l0 : List Int) (a1 : Int) (a2 : Int) (r : Bool) (w : World) (hr0 : Kd.C (Kd.int .i64) w A0 l0.length l0) (hc0 : l0.length ≤ c0) (h : spec_doDoor.f l0 a1 a2 = some r) :
  Calls Try.prog 43 #[.slice A0 l0.length c0,.int .i64 a1,.int .i64 a2] w fun e w'=>e = .returned (.bool r)∧Drawn0 w w':=by
 have HR0:=AM hr0;have HC0:=AM hc0;clear hr0 hc0;have H : (if 0 ≤ a1 then (if a1 < (l0.length : Int) then (if 0 ≤ a2 then (if a2 < (l0.length : Int) then (some ((wrap64 ((rd l0 a1) + (rd l0 a2))) == 1)) else (none)) else (none)) else (none)) else (none)) = some r:=h;clear h;replace H:=IC H;obtain ⟨c4,H⟩:=H;have c4b0:=DT c4;clear c4;replace H:=IC H;obtain ⟨c5,H⟩:=H;have c5b0:=DT c5;clear c5;replace H:=IC H;obtain ⟨c6,H⟩:=H;have c6b0:=DT c6;clear c6;replace H:=IC H;obtain ⟨c7,H⟩:=H;have c7b0:=DT c7;clear c7;obtain rfl:=Option.some.inj H;have p193 : 0 ≤ (a1 : Int):=OD AS;have q193 : a1 < (l0.length : Int):=OD AS;obtain ⟨ad193,e193,hx193_0⟩:=Kd.at_int HR0.out a1 p193 q193;cases e193;replace p193:=ET p193;replace q193:=ET q193;have p194 : 0 ≤ (a2 : Int):=OD AS;have q194 : a2 < (l0.length : Int):=OD AS;obtain ⟨ad194,e194,hx194_0⟩:=Kd.at_int HR0.out a2 p194 q194;obtain rfl : ad193 = ad194:=(by injection e194);replace p194:=ET p194;replace q194:=ET q194;go_enter Try.func43,Try.ntmps43;go_wp2;repeat (go_quiet (fail);try go_wp2)
 go_ret;exact ⟨RF,DR⟩

end Go.Proofs.Ytcecimigkndakab.PFnExactFairCut
