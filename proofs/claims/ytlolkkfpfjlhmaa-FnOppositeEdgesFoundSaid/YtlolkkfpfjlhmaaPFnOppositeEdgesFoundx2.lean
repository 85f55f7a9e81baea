-- Written by a program of this session (wip/tools/pp.sh) out of the translation; Lean checks it.
import Derived.Test.YtlolkkfpfjlhmaaPFnOppositeEdgesFoundx1
namespace Go.Proofs.Ytlolkkfpfjlhmaa.PFnOppositeEdgesFound
open Go.RowKit Go.Proofs.YtlolkkfpfjlhmaaOwn Go.Proofs.YtlolkkfpfjlhmaaW.PrintWords Go.Proofs.YtlolkkfpfjlhmaaW.PrintLast Go.Proofs.YtlolkkfpfjlhmaaW.PrintMore
attribute [local go_sem] max2_int min2_int max_two min_two max_three min_three max_four min_four   -- for this text's walks alone
set_option linter.unusedVariables false
set_option maxHeartbeats 8000000
set_option maxRecDepth 100000
set_option linter.unusedSimpArgs false

/-! ### spec_l1Cur_opposite: function 39 -/
mutual
def spec_l1Cur_opposite.l0 : Nat→Int→List Int→Int→Int→List Int→Int→Int→Option (Int × List Int × Int × Int)
 | 0,_,_,_,_,_,_,_=>none
 | k + 1,x4,x5,x22,x23,x1000,x1001,x1002=>if x23 < x22 then ((spec_l1Cur_among.f x1000 x1001 x1002 (([1,2,(-1),(-2)] : List Int))).bind fun bt126=>(if 0 ≤ x23 then (if x23 < (x5.length : Int) then (spec_l1Cur_opposite.l0 k x4 (x5.set (x23 : Int).toNat bt126.1) x22 (wrap64 (x23 + 1)) x1000 bt126.2.1 bt126.2.2) else (none)) else (none))) else ((spec_l1Cur_one.f x1000 x1001 x1002 2).bind fun bt130=>(if bt130.1 = true then ((spec_l1Cur_pick.f x1000 bt130.2.1 bt130.2.2 4).bind fun bt133=>(spec_l1Cur_opposite.l1 k x4 x5 bt133.1 (x5.length : Int) 0 x1000 bt133.2.1 bt133.2.2)) else (spec_l1Cur_opposite.j5 k x4 x5 x1000 bt130.2.1 bt130.2.2)))
def spec_l1Cur_opposite.j5 : Nat→Int→List Int→List Int→Int→Int→Option (Int × List Int × Int × Int)
 | 0,_,_,_,_,_=>none
 | k + 1,x4,x5,x1000,x1001,x1002=>spec_l1Cur_opposite.l2 k x4 x5 (x5.length : Int) 0 x1000 x1001 x1002
def spec_l1Cur_opposite.l2 : Nat→Int→List Int→Int→Int→List Int→Int→Int→Option (Int × List Int × Int × Int)
 | 0,_,_,_,_,_,_,_=>none
 | k + 1,x4,x5,x98,x99,x1000,x1001,x1002=>if x99 < x98 then ((spec_opAt.f x4 x99).bind fun bt171=>((spec_l1Abs.f bt171.1).bind fun t173=>(if t173 = x4 then (if 0 ≤ x99 then (if x99 < (x5.length : Int) then (if 0 ≤ (wrap64 ((wrap64 ((x5.length : Int) - 1)) - x99)) then (if (wrap64 ((wrap64 ((x5.length : Int) - 1)) - x99)) < (x5.length : Int) then (spec_l1Cur_opposite.l2 k x4 (x5.set ((wrap64 ((wrap64 ((x5.length : Int) - 1)) - x99)) : Int).toNat (wrap64 (-(rd x5 x99)))) x98 (wrap64 (x99 + 1)) x1000 x1001 x1002) else (none)) else (none)) else (none)) else (none)) else ((spec_l1Abs.f bt171.2).bind fun t176=>(if t176 = x4 then (if 0 ≤ x99 then (if x99 < (x5.length : Int) then (if 0 ≤ (wrap64 ((wrap64 ((x5.length : Int) - 1)) - x99)) then (if (wrap64 ((wrap64 ((x5.length : Int) - 1)) - x99)) < (x5.length : Int) then (spec_l1Cur_opposite.l2 k x4 (x5.set ((wrap64 ((wrap64 ((x5.length : Int) - 1)) - x99)) : Int).toNat (wrap64 (-(rd x5 x99)))) x98 (wrap64 (x99 + 1)) x1000 x1001 x1002) else (none)) else (none)) else (none)) else (none)) else (spec_l1Cur_opposite.l2 k x4 x5 x98 (wrap64 (x99 + 1)) x1000 x1001 x1002)))))) else ((spec_l1Cur_pick.f x1000 x1001 x1002 12).bind fun bt179=>(if bt179.1 = 0 then ((spec_l1Cur_pick.f x1000 bt179.2.1 bt179.2.2 (x5.length : Int)).bind fun bt182=>((spec_l1Cur_among.f x1000 bt182.2.1 bt182.2.2 (([0,3,(-3),1,4611686018427387904] : List Int))).bind fun bt188=>(if 0 ≤ bt182.1 then (if bt182.1 < (x5.length : Int) then (some (x4,(x5.set (bt182.1 : Int).toNat bt188.1),bt188.2.1,bt188.2.2)) else (none)) else (none)))) else (if bt179.1 = 1 then ((spec_l1Cur_among.f x1000 bt179.2.1 bt179.2.2 (([0,3,4,5] : List Int))).bind fun bt195=>(some (bt195.1,x5,bt195.2.1,bt195.2.2))) else (some (x4,x5,bt179.2.1,bt179.2.2)))))
def spec_l1Cur_opposite.l1 : Nat→Int→List Int→Int→Int→Int→List Int→Int→Int→Option (Int × List Int × Int × Int)
 | 0,_,_,_,_,_,_,_,_=>none
 | k + 1,x4,x5,x7,x38,x39,x1000,x1001,x1002=>if x39 < x38 then ((spec_opAt.f x4 x39).bind fun bt136=>(if bt136.1 > 0 then (if bt136.2 ≤ 0 then (spec_l1Cur_opposite.j2 k x4 x5 x7 x39 bt136.1 bt136.2 3 x38 x39 (decide ((wrap64 (-bt136.2)) ≤ bt136.1)) x1000 x1001 x1002) else (spec_l1Cur_opposite.j2 k x4 x5 x7 x39 bt136.1 bt136.2 3 x38 x39 false x1000 x1001 x1002)) else (spec_l1Cur_opposite.j2 k x4 x5 x7 x39 bt136.1 bt136.2 3 x38 x39 false x1000 x1001 x1002))) else (spec_l1Cur_opposite.j5 k x4 x5 x1000 x1001 x1002)
def spec_l1Cur_opposite.j2 : Nat→Int→List Int→Int→Int→Int→Int→Int→Int→Int→Bool→List Int→Int→Int→Option (Int × List Int × Int × Int)
 | 0,_,_,_,_,_,_,_,_,_,_,_,_,_=>none
 | k + 1,x4,x5,x7,x8,x9,x10,x11,x38,x39,x48,x1000,x1001,x1002=>if x48 = true then ((spec_l1Cur_one.f x1000 x1001 x1002 9).bind fun bt138=>(if bt138.1 = true then (spec_l1Cur_opposite.l1 k x4 x5 x7 x38 (wrap64 (x39 + 1)) x1000 bt138.2.1 bt138.2.2) else ((some (([1,2,(-1),(-2)] : List Int) : List Int)).bind fun y141=>(if 0 ≤ (Int.tmod (wrap64 (0 + x7)) 4) then (if (Int.tmod (wrap64 (0 + x7)) 4) < (y141.length : Int) then (if 0 ≤ x8 then (if x8 < (x5.length : Int) then (spec_l1Cur_opposite.l1 k x4 (x5.set (x8 : Int).toNat (rd y141 (Int.tmod (wrap64 (0 + x7)) 4))) x7 x38 (wrap64 (x39 + 1)) x1000 bt138.2.1 bt138.2.2) else (none)) else (none)) else (none)) else (none))))) else (if x10 > 0 then ((spec_l1Abs.f x9).bind fun t146=>(spec_l1Cur_opposite.j3 k x4 x5 x7 x8 x9 x10 x11 x38 x39 (decide (t146 ≤ x10)) x1000 x1001 x1002)) else (spec_l1Cur_opposite.j3 k x4 x5 x7 x8 x9 x10 x11 x38 x39 false x1000 x1001 x1002))
def spec_l1Cur_opposite.j3 : Nat→Int→List Int→Int→Int→Int→Int→Int→Int→Int→Bool→List Int→Int→Int→Option (Int × List Int × Int × Int)
 | 0,_,_,_,_,_,_,_,_,_,_,_,_,_=>none
 | k + 1,x4,x5,x7,x8,x9,x10,x11,x38,x39,x61,x1000,x1001,x1002=>if x61 = true then ((spec_l1Cur_one.f x1000 x1001 x1002 9).bind fun bt147=>(if bt147.1 = true then (spec_l1Cur_opposite.l1 k x4 x5 x7 x38 (wrap64 (x39 + 1)) x1000 bt147.2.1 bt147.2.2) else ((some (([1,2,(-1),(-2)] : List Int) : List Int)).bind fun y150=>(if 0 ≤ (Int.tmod (wrap64 (1 + x7)) 4) then (if (Int.tmod (wrap64 (1 + x7)) 4) < (y150.length : Int) then (if 0 ≤ x8 then (if x8 < (x5.length : Int) then (spec_l1Cur_opposite.l1 k x4 (x5.set (x8 : Int).toNat (rd y150 (Int.tmod (wrap64 (1 + x7)) 4))) x7 x38 (wrap64 (x39 + 1)) x1000 bt147.2.1 bt147.2.2) else (none)) else (none)) else (none)) else (none))))) else (if x9 < 0 then (if x10 ≥ 0 then (spec_l1Cur_opposite.j4 k x4 x5 x7 x8 x11 x38 x39 (decide (x10 ≤ (wrap64 (-x9)))) x1000 x1001 x1002) else (spec_l1Cur_opposite.j4 k x4 x5 x7 x8 x11 x38 x39 false x1000 x1001 x1002)) else (spec_l1Cur_opposite.j4 k x4 x5 x7 x8 x11 x38 x39 false x1000 x1001 x1002))
def spec_l1Cur_opposite.j4 : Nat→Int→List Int→Int→Int→Int→Int→Int→Bool→List Int→Int→Int→Option (Int × List Int × Int × Int)
 | 0,_,_,_,_,_,_,_,_,_,_,_=>none
 | k + 1,x4,x5,x7,x8,x11,x38,x39,x70,x1000,x1001,x1002=>if x70 = true then ((spec_l1Cur_one.f x1000 x1001 x1002 9).bind fun bt155=>(if bt155.1 = true then (spec_l1Cur_opposite.l1 k x4 x5 x7 x38 (wrap64 (x39 + 1)) x1000 bt155.2.1 bt155.2.2) else ((some (([1,2,(-1),(-2)] : List Int) : List Int)).bind fun y158=>(if 0 ≤ (Int.tmod (wrap64 (2 + x7)) 4) then (if (Int.tmod (wrap64 (2 + x7)) 4) < (y158.length : Int) then (if 0 ≤ x8 then (if x8 < (x5.length : Int) then (spec_l1Cur_opposite.l1 k x4 (x5.set (x8 : Int).toNat (rd y158 (Int.tmod (wrap64 (2 + x7)) 4))) x7 x38 (wrap64 (x39 + 1)) x1000 bt155.2.1 bt155.2.2) else (none)) else (none)) else (none)) else (none))))) else ((spec_l1Cur_one.f x1000 x1001 x1002 9).bind fun bt163=>(if bt163.1 = true then (spec_l1Cur_opposite.l1 k x4 x5 x7 x38 (wrap64 (x39 + 1)) x1000 bt163.2.1 bt163.2.2) else ((some (([1,2,(-1),(-2)] : List Int) : List Int)).bind fun y166=>(if 0 ≤ (Int.tmod (wrap64 (x11 + x7)) 4) then (if (Int.tmod (wrap64 (x11 + x7)) 4) < (y166.length : Int) then (if 0 ≤ x8 then (if x8 < (x5.length : Int) then (spec_l1Cur_opposite.l1 k x4 (x5.set (x8 : Int).toNat (rd y166 (Int.tmod (wrap64 (x11 + x7)) 4))) x7 x38 (wrap64 (x39 + 1)) x1000 bt163.2.1 bt163.2.2) else (none)) else (none)) else (none)) else (none)))))
end
def spec_l1Cur_opposite.f (k : Nat) (s0_0 : List Int) (s0_1 : Int) (s0_2 : Int) : Option (Int × List Int × Int × Int):=(spec_l1Cur_pick.f s0_0 s0_1 s0_2 2).bind fun bt116=>((spec_opCount.f (wrap64 (1 + bt116.1))).bind fun t119=>(if 0 ≤ t119 then (if (t119 : Int).toNat ≤ 35184372088832 then ((some (List.replicate (t119 : Int).toNat 0 : List Int)).bind fun y120=>(spec_l1Cur_opposite.l0 k (wrap64 (1 + bt116.1)) y120 (y120.length : Int) 0 s0_0 bt116.2.1 bt116.2.2)) else (none)) else (none)))
theorem spec_l1Cur_opposite.mono_l : ∀ k,(∀ y0 y1 y2 y3 y4 y5 y6,LeO (spec_l1Cur_opposite.l0 k y0 y1 y2 y3 y4 y5 y6) (spec_l1Cur_opposite.l0 (k + 1) y0 y1 y2 y3 y4 y5 y6))∧(∀ y0 y1 y2 y3 y4,LeO (spec_l1Cur_opposite.j5 k y0 y1 y2 y3 y4) (spec_l1Cur_opposite.j5 (k + 1) y0 y1 y2 y3 y4))∧(∀ y0 y1 y2 y3 y4 y5 y6,LeO (spec_l1Cur_opposite.l2 k y0 y1 y2 y3 y4 y5 y6) (spec_l1Cur_opposite.l2 (k + 1) y0 y1 y2 y3 y4 y5 y6))∧(∀ y0 y1 y2 y3 y4 y5 y6 y7,LeO (spec_l1Cur_opposite.l1 k y0 y1 y2 y3 y4 y5 y6 y7) (spec_l1Cur_opposite.l1 (k + 1) y0 y1 y2 y3 y4 y5 y6 y7))∧(∀ y0 y1 y2 y3 y4 y5 y6 y7 y8 y9 y10 y11 y12,LeO (spec_l1Cur_opposite.j2 k y0 y1 y2 y3 y4 y5 y6 y7 y8 y9 y10 y11 y12) (spec_l1Cur_opposite.j2 (k + 1) y0 y1 y2 y3 y4 y5 y6 y7 y8 y9 y10 y11 y12))∧(∀ y0 y1 y2 y3 y4 y5 y6 y7 y8 y9 y10 y11 y12,LeO (spec_l1Cur_opposite.j3 k y0 y1 y2 y3 y4 y5 y6 y7 y8 y9 y10 y11 y12) (spec_l1Cur_opposite.j3 (k + 1) y0 y1 y2 y3 y4 y5 y6 y7 y8 y9 y10 y11 y12))∧(∀ y0 y1 y2 y3 y4 y5 y6 y7 y8 y9 y10,LeO (spec_l1Cur_opposite.j4 k y0 y1 y2 y3 y4 y5 y6 y7 y8 y9 y10) (spec_l1Cur_opposite.j4 (k + 1) y0 y1 y2 y3 y4 y5 y6 y7 y8 y9 y10))
 | 0=>⟨fun _ _ _ _ _ _ _=>LZ,fun _ _ _ _ _=>LZ,fun _ _ _ _ _ _ _=>LZ,fun _ _ _ _ _ _ _ _=>LZ,fun _ _ _ _ _ _ _ _ _ _ _ _ _=>LZ,fun _ _ _ _ _ _ _ _ _ _ _ _ _=>LZ,fun _ _ _ _ _ _ _ _ _ _ _=>LZ⟩
 | k + 1=>by
  obtain ⟨ih0,ih1,ih2,ih3,ih4,ih5,ih6⟩:=spec_l1Cur_opposite.mono_l k
  refine ⟨?_,?_,?_,?_,?_,?_,?_⟩ <;> intros
  all_goals (first|unfold spec_l1Cur_opposite.l0|unfold spec_l1Cur_opposite.j5|unfold spec_l1Cur_opposite.l2|unfold spec_l1Cur_opposite.l1|unfold spec_l1Cur_opposite.j2|unfold spec_l1Cur_opposite.j3|unfold spec_l1Cur_opposite.j4)
  all_goals exact MO
theorem spec_l1Cur_opposite.mono : ∀ a0 a1 a2 k,LeO (spec_l1Cur_opposite.f k a0 a1 a2) (spec_l1Cur_opposite.f (k + 1) a0 a1 a2):=by
 intro a0 a1 a2 k;obtain ⟨ih0,ih1,ih2,ih3,ih4,ih5,ih6⟩:=spec_l1Cur_opposite.mono_l k;unfold spec_l1Cur_opposite.f
 exact MO
theorem spec_l1Cur_opposite.calls (k : Nat) (g : Nat) (s0_0 : List Int) (s0_1 : Int) (s0_2 : Int) (r1 : Int) (r2 : List Int) (r3 : Int) (r4 : Int) (w0 w : World) (hI : IsS59 w0 w g s0_0 s0_1 s0_2) (hB : Below w0.heap.size w0 w) (h : spec_l1Cur_opposite.f k s0_0 s0_1 s0_2 = some (r1,r2,r3,r4)) :
  Calls Try.prog 39 #[.pointer (some ⟨g,0,none⟩)] w fun e w'=>∃ v1_ : Value,e = .returned (.tuple #[.int .i64 r1,v1_])∧Kd.R (Kd.int .i64) 3 w' w.heap.size (fun _=>True) v1_ r2∧IsS59 w0 w' g s0_0 r3 r4∧Below w0.heap.size w0 w'∧KeepBut w w' g none:=by
 have HI0:=AM hI;have HK:=AM (KeepBut.refl w g none);have HL:=AM hB.size;clear hI;have HW0:=AM hB.size;have HB:=AM hB;clear hB;have H : ((spec_l1Cur_pick.f s0_0 s0_1 s0_2 2).bind fun bt116=>((spec_opCount.f (wrap64 (1 + bt116.1))).bind fun t119=>(if 0 ≤ t119 then (if (t119 : Int).toNat ≤ 35184372088832 then ((some (List.replicate (t119 : Int).toNat 0 : List Int)).bind fun y120=>(spec_l1Cur_opposite.l0 k (wrap64 (1 + bt116.1)) y120 (y120.length : Int) 0 s0_0 bt116.2.1 bt116.2.2)) else (none)) else (none)))) = some (r1,r2,r3,r4):=h;clear h;replace H:=EA H;obtain ⟨⟨t116,t117,t118⟩,A2,H⟩:=H;try dsimp only at H
 replace H:=EA H;obtain ⟨t119,A3,H⟩:=H;replace H:=IC H;obtain ⟨c4,H⟩:=H;have c4b0:=ET c4;have c4b1:=DT c4;clear c4;replace H:=IC H;obtain ⟨c5,H⟩:=H;have c5b0:=ET c5;have c5b1:=DT c5;clear c5;obtain ⟨y120,hy120⟩ : ∃ y_ : List Int,y_ = (List.replicate (t119 : Int).toNat 0):=⟨_,rfl⟩;replace H : (spec_l1Cur_opposite.l0 k (wrap64 (1 + t116)) y120 (y120.length : Int) 0 s0_0 t117 t118) = some (r1,r2,r3,r4):=HY H hy120;have Ny120:=AM hy120;clear hy120;have H':=AM H;clear H;go_enter Try.func39,Try.ntmps39;go_wp2_with (first|(refine GC 41 ?_;refine GM (some 16) Try.func41 (spec_l1Cur_pick.calls g s0_0 s0_1 s0_2 2 t116 t117 t118 w0 _ AHI AHB A2.out) ?_;rintro e w6 ⟨rfl,hi,hb,hk⟩;refine ⟨_,rfl,?_⟩;replace HK:=HX hk;replace HB:=AM hb;replace HI0:=AM hi;try clear hb hk hi)|(refine GC 58 ?_;refine GM (some 19) Try.func58 (spec_opCount.calls (wrap64 (1 + t116)) t119 _ A3.out) ?_;rintro e w' ⟨rfl,⟨nd,rfl⟩⟩;refine ⟨_,rfl,?_⟩)|((with_reducible refine gate_dst (N:=20) rfl ?_);refine Kd.R_make (Kd.int .i64) _ 3 rfl (N:=20) rfl 24 _ _ rfl t119 rfl rfl Try.underlying24 (.int .i64 0) 8 info3 rfl (by decide) (by omega) 0 (ok:=fun _=>True) (okp:=fun _=>True) rfl (fun _ hk=>hk) trivial (OD AS) (Nat.le_trans (Nat.mul_le_mul_right _ (OD AS : t119.toNat ≤ 35184372088832)) (by omega)) (Below.refl _ _) (Nat.le_refl _) ?_;intro v121 w7 ho8 hb hg_ hnew_;clear hg_ hnew_;(first|rw [← Ny120.out] at ho8|(simp only [Int.reduceToNat] at ho8;rw [← Ny120.out] at ho8));have HO122:=AM (Kd.R_lower ho8 (keep_size (w:=w) (g:=g) (row:=none) AHK));replace HK:=AM (KeepBut.trans AHK (KeepBut.of_below hb g none) (.inl rfl));replace HB:=AM (below_step AHB hb);replace HI0:=AM (IsS59.below AHI hb);clear hb ho8;obtain ⟨Ao9,co9,eo9⟩:=Kd.R_slice HO122.out;subst eo9));go_loopg [23] k (fun kq v23 w'=>∃ (x5_1 : List Int) (x23_1 : Int) (x1001_1 : Int) (x1002_1 : Int),v23 = .int .i64 x23_1∧Aside0 (spec_l1Cur_opposite.l0 kq (wrap64 (1 + t116)) x5_1 (y120.length : Int) x23_1 s0_0 x1001_1 x1002_1 = some (r1,r2,r3,r4))∧Aside0 (kq ≤ k)∧Aside0 (Kd.R (Kd.int .i64) 3 w' w.heap.size (fun _=>True) (.slice Ao9 y120.length co9) x5_1)∧Aside0 (IsS59 w0 w' g s0_0 x1001_1 x1002_1)∧Aside0 (KeepBut w w' g none)∧Aside0 (Below w0.heap.size w0 w'))
 case atStart=>exact ⟨(y120),(0),(t117),(t118),RF,H',⟨Nat.le_refl _⟩,⟨KR HO122⟩,⟨AHI⟩,⟨AHK⟩,⟨AHB⟩⟩
 case round =>
  clear H';try clear p2
  try clear c3
  try clear c4
  try clear c4b0
  try clear c4b1
  try clear c5
  try clear c5b0
  try clear c5b1
  try clear p6
  obtain ⟨x5_1,x23_1,x1001_1,x1002_1,rfl,HA,HK1,HO_5,HI0,HK,HB⟩:=hrel;have hl5_1:=(Kd.R_reads' HO_5.out).1;rw [hl5_1] at HO_5
  (try simp only [hl5_1]);cases gk with
  | zero=>exact absurd HA.out (by simp [spec_l1Cur_opposite.l0])
  | succ k1 =>
   have H:=HA.out;clear HA;simp only [spec_l1Cur_opposite.l0] at H;by_cases c10 : x23_1 < (y120.length : Int)
   ·rw [if_pos c10] at H;have c10b0:=DT c10;clear c10;have c10b0h:=c10b0
    (try simp only [hl5_1] at c10b0h);obtain ⟨y123,hy123⟩ : ∃ y_ : List Int,y_ = (([1,2,(-1),(-2)] : List Int)):=⟨_,rfl⟩;replace H : ((spec_l1Cur_among.f s0_0 x1001_1 x1002_1 y123).bind fun bt126=>(if 0 ≤ x23_1 then (if x23_1 < (x5_1.length : Int) then (spec_l1Cur_opposite.l0 k1 (wrap64 (1 + t116)) (x5_1.set (x23_1 : Int).toNat bt126.1) (y120.length : Int) (wrap64 (x23_1 + 1)) s0_0 bt126.2.1 bt126.2.2) else (none)) else (none))) = some (r1,r2,r3,r4):=HY H hy123;have Ny123:=AM hy123;clear hy123;replace H:=EA H;obtain ⟨⟨t126,t127,t128⟩,A11,H⟩:=H;try dsimp only at H
    replace H:=IC H;obtain ⟨c12,H⟩:=H;have c12b0:=DT c12;clear c12;replace H:=IC H;obtain ⟨c13,H⟩:=H;have c13b0:=DT c13;clear c13;have c13b0h:=c13b0
    (try simp only [hl5_1] at c13b0h);obtain ⟨y129,hy129⟩ : ∃ y_ : List Int,y_ = (x5_1.set (x23_1 : Int).toNat t126):=⟨_,rfl⟩;replace H : (spec_l1Cur_opposite.l0 k1 (wrap64 (1 + t116)) y129 (y120.length : Int) (wrap64 (x23_1 + 1)) s0_0 t127 t128) = some (r1,r2,r3,r4):=HY H hy129;have Ny129:=AM hy129;clear hy129;have H':=AM H;clear H;go_wp2_with (first|((with_reducible refine gate_dst (N:=29) rfl ?_);refine Kd.R_lit (Kd.int .i64) _ 3 ?hg (N:=29) ?hd (xs:=([1,2,(-1),(-2)] : List Int)) (inner:=[.int .i64 1,.int .i64 2,.int .i64 (-1),.int .i64 (-2)]) (ok:=fun _=>True) (okp:=fun _=>True) ?hr ?hp (fun _ hk=>hk) trivial (Below.refl _ _) (Nat.le_refl _) (by simp) ?_;(case hd=>rfl);(case hg=>rfl);(case hr=>exact GS);(case hp=>exact (Reps.one (show Kd.M (Kd.int .i64) _ _ _ 1 [.int .i64 1] from rfl) (Reps.one (show Kd.M (Kd.int .i64) _ _ _ 2 [.int .i64 2] from rfl) (Reps.one (show Kd.M (Kd.int .i64) _ _ _ (-1) [.int .i64 (-1)] from rfl) (Reps.one (show Kd.M (Kd.int .i64) _ _ _ (-2) [.int .i64 (-2)] from rfl) (Reps.none _ _))))));intro v124 w15 ho16 hb hg_ hnew_;clear hg_ hnew_;(first|rw [← Ny123.out] at ho16|(simp only [Int.reduceToNat] at ho16;rw [← Ny123.out] at ho16));have HO125:=AM (Kd.R_lower (Kd.R_new' ho16 (Kd.R_lt (KR HO_5))) (keep_size (w:=w) (g:=g) (row:=none) AHK));replace HO_5:=RO HO_5 ho16 hb;replace HK:=AM (KeepBut.trans AHK (KeepBut.of_below hb g none) (.inl rfl));replace HB:=AM (below_step AHB hb);replace HI0:=AM (IsS59.below AHI hb);clear hb ho16;obtain ⟨Ao17,co17,eo17⟩:=Kd.R_slice HO125.out;subst eo17)|(refine GC 69 ?_;refine GM (some 30) Try.func69 (spec_l1Cur_among.calls g s0_0 x1001_1 x1002_1 _ _ y123 t126 t127 t128 w0 _ AHI AHB (CW (Kd.R_reads' HO125.out).2.2) ((Kd.R_reads' HO125.out).2.1) (far_slice (IsS59.own_ne HI0.out HO125.out (by decide))) A11.out) ?_;rintro e w18 ⟨rfl,hi,hb,hk⟩;refine ⟨_,rfl,?_⟩;replace HO_5:=AM (Kd.R_mono (Kd.R_keep (IsS59.apart (show IsS59 w0 _ g s0_0 x1001_1 x1002_1 from AHI) (KR HO_5) (by decide)) hk (fun _ h=>h.2)) (fun _ h=>h.1));replace HO125:=AM (Kd.R_mono (Kd.R_keep (IsS59.apart (show IsS59 w0 _ g s0_0 x1001_1 x1002_1 from AHI) (KR HO125) (by decide)) hk (fun _ h=>h.2)) (fun _ h=>h.1));replace HK:=HX hk;replace HB:=AM hb;replace HI0:=AM hi;try clear hb hk hi;have p14 : 0 ≤ (x23_1 : Int):=OD AS;have q14 : (x23_1 : Int) < ((x5_1.length : Int) : Int):=OD AS;obtain ⟨go14,co14,eo14,gb14,gl14,cl14,HG14⟩:=Kd.R_form HO_5.out (by omega);(first|cases eo14|(injection eo14 with ea_ en_ ec_;(first|subst ea_|(injection ea_ with ea_;subst ea_));subst ec_;clear en_));have GB14:=AM gb14;have GG14:=AM HG14;clear gb14 gl14 HG14;obtain ⟨hx14_0,hf14_0⟩:=Kd.R_celln 0 HO_5.out (x23_1 : Int) p14 q14;replace p14:=ET p14;replace q14:=ET q14;have n_:=AM (Kd.R_mono (ok':=(fun k_=>some k_≠(.slice Ao17 y123.length co17 : Value).ownBlock)) HO_5.out (fun k_ hk=>hk.2));clear HO_5;have HO_5:=n_;clear n_;obtain ⟨hy19_,hz19_⟩:=Kd.R_celln 0 HO_5.out (x23_1 : Int) (OD AS) (OD AS);have HP19:=Kd.R_putg HO_5.out (x23_1 : Int) t126)|((with_reducible refine gate_store (t:=3) (p:=31) rfl ?_);refine store_event (t:=3) (p:=31) (v:=?vo_w20) (w1:=(w18.setCell ⟨go14,(x23_1 : Int).toNat,none⟩ (.int .i64 t126))) ?hg ?ho ?hn ?hr ?_;(case ho=>rfl);(case hg=>rfl);(case hn=>rfl);(case hr=>exact GS);intro w20 hw;have hg : w18.grownBy w20 (some go14):=(by rw [hw];exact HP19.2);have hp_ : Kd.R (Kd.int .i64) 3 w20 w.heap.size (fun k_=>some k_≠(.slice Ao17 y123.length co17 : Value).ownBlock) (.slice (some ⟨go14,0,none⟩) x5_1.length co9) y129:=(by rw [hw,Ny129.out];exact HP19.1);clear HP19;replace HI0:=AM (IsS59.grown AHI hg (IsS59.own_ne HI0.out HO_5.out (by decide)));replace HO125:=AM (Kd.R_after (v:=(.slice (some ⟨go14,0,none⟩) x5_1.length co9)) (v1:=(.slice (some ⟨go14,0,none⟩) x5_1.length co9)) (ok:=(fun _=>True)) (KR HO125) hg (.inl rfl));replace HB:=AM ((by rw [hw];exact below_set (HB.out) (Nat.le_trans HL.out GB14.out) : Below w0.heap.size w0 w20));replace HK:=AM (KeepBut.trans AHK (KeepBut.of_grown hg g) (Kd.R_base2 HO_5.out));replace HO_5:=AM hp_;clear hg hw hp_))
    (try simp only [← hl5_1]);go_roundg k1
    case measure=>have:=HK1.out;omega
    case rel=>exact ⟨(y129),(wrap64 (x23_1 + 1)),(t127),(t128),RF,H',⟨by have:=HK1.out;omega⟩,⟨by (try simp only [hl5_1]);(with_reducible repeat (first|apply Kd.R_alloc|apply Kd.R_drewN|apply Kd.R_drew));exact Kd.R_mono HO_5.out (fun _ hk=>trivial)⟩,⟨AHI⟩,⟨AHK⟩,⟨AHB⟩⟩
   ·rw [if_neg c10] at H;have c10b0:=DF c10;clear c10;have c10b0h:=c10b0
    (try simp only [hl5_1] at c10b0h);replace H:=EA H;obtain ⟨⟨t130,t131,t132⟩,A21,H⟩:=H;try dsimp only at H
    have HC22:=AM H;clear H;go_upto_if 34 with (first|(refine GC 40 ?_;refine GM (some 34) Try.func40 (spec_l1Cur_one.calls g s0_0 x1001_1 x1002_1 2 t130 t131 t132 w0 _ AHI AHB A21.out) ?_;rintro e w23 ⟨rfl,hi,hb,hk⟩;refine ⟨_,rfl,?_⟩;replace HO_5:=AM (Kd.R_mono (Kd.R_keep (IsS59.apart (show IsS59 w0 _ g s0_0 x1001_1 x1002_1 from AHI) (KR HO_5) (by decide)) hk (fun _ h=>h.2)) (fun _ h=>h.1));replace HK:=HX hk;replace HB:=AM hb;replace HI0:=AM hi;try clear hb hk hi))
    (try simp only [Act.put,List.setIfInBounds_toArray,List.set_cons_zero,List.set_cons_succ]);go_cut [] (fun wc=>∃ (kq : Nat) (x5_21 : List Int) (x1001_21 : Int) (x1002_21 : Int),Aside0 (spec_l1Cur_opposite.j5 kq (wrap64 (1 + t116)) x5_21 s0_0 x1001_21 x1002_21 = some (r1,r2,r3,r4))∧Aside0 (kq ≤ k1)∧Aside0 (Kd.R (Kd.int .i64) 3 wc w.heap.size (fun _=>True) (.slice Ao9 x5_1.length co9) x5_21)∧Aside0 (IsS59 w0 wc g s0_0 x1001_21 x1002_21)∧Aside0 (KeepBut w wc g none)∧Aside0 (Below w0.heap.size w0 wc))
    case first =>
     have H:=HC22.out;clear HC22;by_cases c24 : t130 = true
     ·subst c24;replace H:=IP H;replace H:=EA H;obtain ⟨⟨t133,t134,t135⟩,A25,H⟩:=H;try dsimp only at H
      have H':=AM H;clear H;go_wp2_with (first|(refine GC 41 ?_;refine GM (some 36) Try.func41 (spec_l1Cur_pick.calls g s0_0 t131 t132 4 t133 t134 t135 w0 _ AHI AHB A25.out) ?_;rintro e w26 ⟨rfl,hi,hb,hk⟩;refine ⟨_,rfl,?_⟩;replace HO_5:=AM (Kd.R_mono (Kd.R_keep (IsS59.apart (show IsS59 w0 _ g s0_0 t131 t132 from AHI) (KR HO_5) (by decide)) hk (fun _ h=>h.2)) (fun _ h=>h.1));replace HK:=HX hk;replace HB:=AM hb;replace HI0:=AM hi;try clear hb hk hi));go_loopg [39] k1 (fun kq v39 w'=>∃ (x5_2 : List Int) (x39_2 : Int) (x1001_2 : Int) (x1002_2 : Int),v39 = .int .i64 x39_2∧Aside0 (spec_l1Cur_opposite.l1 kq (wrap64 (1 + t116)) x5_2 t133 (x5_1.length : Int) x39_2 s0_0 x1001_2 x1002_2 = some (r1,r2,r3,r4))∧Aside0 (kq ≤ k1)∧Aside0 (Kd.R (Kd.int .i64) 3 w' w.heap.size (fun _=>True) (.slice Ao9 x5_1.length co9) x5_2)∧Aside0 (IsS59 w0 w' g s0_0 x1001_2 x1002_2)∧Aside0 (KeepBut w w' g none)∧Aside0 (Below w0.heap.size w0 w'))
      case atStart=>exact ⟨(x5_1),(0),(t134),(t135),RF,H',⟨Nat.le_refl _⟩,⟨by (try simp only [hl5_1]);(with_reducible repeat (first|apply Kd.R_alloc|apply Kd.R_drewN|apply Kd.R_drew));exact HO_5.out⟩,⟨AHI⟩,⟨AHK⟩,⟨AHB⟩⟩
      case round =>
       clear H';try clear c1
       try clear p1
       try clear q1
       try clear hx1
       try clear hf1
       try clear c2
       try clear p2
       try clear c3
       try clear c4
       try clear c4b0
       try clear c4b1
       try clear c5
       try clear c5b0
       try clear c5b1
       try clear c6
       try clear p6
       try clear c10
       try clear c10b0
       try clear c12
       try clear c12b0
       try clear c13
       try clear c13b0
       try clear p14
       try clear q14
       try clear hx14
       try clear hf14
       try clear c24
       try clear hx14_0
       try clear p14
       try clear p2
       try clear p6
       try clear q14
       obtain ⟨x5_2,x39_2,x1001_2,x1002_2,rfl,HA,HK2,HO_5,HI0,HK,HB⟩:=hrel;have hl5_2:=(Kd.R_reads' HO_5.out).1;rw [hl5_2] at HO_5
       (try simp only [hl5_2]);cases gk with
       | zero=>exact absurd HA.out (by simp [spec_l1Cur_opposite.l1])
       | succ k2 =>
        have H:=HA.out;clear HA;simp only [spec_l1Cur_opposite.l1] at H;by_cases c27 : x39_2 < (x5_1.length : Int)
        ·rw [if_pos c27] at H;have c27b0:=DT c27;clear c27;have c27b0h:=c27b0
         (try simp only [hl5_1] at c27b0h)
         (try simp only [hl5_2] at c27b0h)
         (first|rw [c27b0]|(simp only [i64_w,i32_w];rw [c27b0])|skip);replace H:=EA H;obtain ⟨⟨t136,t137⟩,A28,H⟩:=H;try dsimp only at H
         have HC29:=AM H;clear H;go_upto_region 15 with (first|(refine GC 68 ?_;refine GM (some 45) Try.func68 (spec_opAt.calls (wrap64 (1 + t116)) x39_2 t136 t137 _ A28.out) ?_;rintro e w' ⟨rfl,⟨nd,rfl⟩⟩;refine ⟨_,rfl,?_⟩))
         (try simp only [Act.put,List.setIfInBounds_toArray,List.set_cons_zero,List.set_cons_succ]);go_cut [48] (fun v48 wc=>∃ (kq : Nat) (x48_28 : Bool),v48 = .bool x48_28∧Aside0 (spec_l1Cur_opposite.j2 kq (wrap64 (1 + t116)) x5_2 t133 x39_2 t136 t137 3 (x5_1.length : Int) x39_2 x48_28 s0_0 x1001_2 x1002_2 = some (r1,r2,r3,r4))∧Aside0 (kq ≤ k2)∧Aside0 (Kd.R (Kd.int .i64) 3 wc w.heap.size (fun _=>True) (.slice Ao9 x5_2.length co9) x5_2)∧Aside0 (IsS59 w0 wc g s0_0 x1001_2 x1002_2)∧Aside0 (KeepBut w wc g none)∧Aside0 (Below w0.heap.size w0 wc))
         case first =>
          have H:=HC29.out;clear HC29;by_cases c30 : t136 > 0
          ·rw [if_pos c30] at H;have c30b0:=DT c30;clear c30
           (first|rw [c30b0]|(simp only [i64_w,i32_w];rw [c30b0])|skip);by_cases c31 : t137 ≤ 0
           ·rw [if_pos c31] at H;have c31b0:=DT c31;clear c31;have H':=AM H;clear H;go_wp2;go_meet
            case rel=>exact ⟨_,(decide ((wrap64 (-t137)) ≤ t136)),RF,H',⟨by have:=HK1.out;have:=HK2.out;first|omega|exact Nat.le_refl _⟩,⟨by (try simp only [hl5_1]);(try simp only [hl5_2]);(with_reducible repeat (first|apply Kd.R_alloc|apply Kd.R_drewN|apply Kd.R_drew));exact HO_5.out⟩,⟨AHI⟩,⟨AHK⟩,⟨AHB⟩⟩
           ·rw [if_neg c31] at H;have c31b0:=DF c31;clear c31;have H':=AM H;clear H;go_wp2;go_meet
            case rel=>exact ⟨_,(false),RF,H',⟨by have:=HK1.out;have:=HK2.out;first|omega|exact Nat.le_refl _⟩,⟨by (try simp only [hl5_1]);(try simp only [hl5_2]);(with_reducible repeat (first|apply Kd.R_alloc|apply Kd.R_drewN|apply Kd.R_drew));exact HO_5.out⟩,⟨AHI⟩,⟨AHK⟩,⟨AHB⟩⟩
          ·rw [if_neg c30] at H;have c30b0:=DF c30;clear c30
           (first|rw [c30b0]|(simp only [i64_w,i32_w];rw [c30b0])|skip);have H':=AM H;clear H;go_wp2;go_meet
           case rel=>exact ⟨_,(false),RF,H',⟨by have:=HK1.out;have:=HK2.out;first|omega|exact Nat.le_refl _⟩,⟨by (try simp only [hl5_1]);(try simp only [hl5_2]);(with_reducible repeat (first|apply Kd.R_alloc|apply Kd.R_drewN|apply Kd.R_drew));exact HO_5.out⟩,⟨AHI⟩,⟨AHK⟩,⟨AHB⟩⟩
         case rest =>
          clear HC29;try clear c1
          try clear p1
          try clear q1
          try clear hx1
          try clear hf1
          try clear c2
          try clear p2
          try clear c3
          try clear c4
          try clear c4b0
          try clear c4b1
          try clear c5
          try clear c5b0
          try clear c5b1
          try clear c6
          try clear p6
          try clear c10
          try clear c10b0
          try clear c12
          try clear c12b0
          try clear c13
          try clear c13b0
          try clear p14
          try clear q14
          try clear hx14
          try clear hf14
          try clear c24
          try clear c27
          try clear c27b0
          try clear c30
          try clear c30b0
          try clear c31
          try clear c31b0
          try clear hx14_0
          try clear p1
          try clear p14
          try clear p2
          try clear p6
          try clear q1
          try clear q14
          obtain ⟨kq,x48_28,rfl,HA,HJ28,HO_5,HI0,HK,HB⟩:=hcut;cases kq with
          | zero=>exact absurd HA.out (by simp [spec_l1Cur_opposite.j2])
          | succ kj28 =>
           have H:=HA.out;clear HA;simp only [spec_l1Cur_opposite.j2] at H;by_cases c32 : x48_28 = true
           ·subst c32;replace H:=IP H;replace H:=EA H;obtain ⟨⟨t138,t139,t140⟩,A33,H⟩:=H;try dsimp only at H
            by_cases c34 : t138 = true
            ·subst c34;replace H:=IP H;have H':=AM H;clear H;go_wp2_with (first|(refine GC 40 ?_;refine GM (some 84) Try.func40 (spec_l1Cur_one.calls g s0_0 x1001_2 x1002_2 9 true t139 t140 w0 _ AHI AHB A33.out) ?_;rintro e w35 ⟨rfl,hi,hb,hk⟩;refine ⟨_,rfl,?_⟩;replace HO_5:=AM (Kd.R_mono (Kd.R_keep (IsS59.apart (show IsS59 w0 _ g s0_0 x1001_2 x1002_2 from AHI) (KR HO_5) (by decide)) hk (fun _ h=>h.2)) (fun _ h=>h.1));replace HK:=HX hk;replace HB:=AM hb;replace HI0:=AM hi;try clear hb hk hi))
             (try simp only [← hl5_2]);go_roundg kj28
             case measure=>have:=HK1.out;have:=HK2.out;have:=HJ28.out;omega
             case rel=>exact ⟨(x5_2),(wrap64 (x39_2 + 1)),(t139),(t140),RF,H',⟨by have:=HK1.out;have:=HK2.out;have:=HJ28.out;omega⟩,⟨by (try simp only [hl5_1]);(try simp only [hl5_2]);(with_reducible repeat (first|apply Kd.R_alloc|apply Kd.R_drewN|apply Kd.R_drew));exact HO_5.out⟩,⟨AHI⟩,⟨AHK⟩,⟨AHB⟩⟩
            ·replace c34:=NF c34;subst c34;replace H:=IN H;obtain ⟨y141,hy141⟩ : ∃ y_ : List Int,y_ = (([1,2,(-1),(-2)] : List Int)):=⟨_,rfl⟩;replace H : (if 0 ≤ (Int.tmod (wrap64 (0 + t133)) 4) then (if (Int.tmod (wrap64 (0 + t133)) 4) < (y141.length : Int) then (if 0 ≤ x39_2 then (if x39_2 < (x5_2.length : Int) then (spec_l1Cur_opposite.l1 kj28 (wrap64 (1 + t116)) (x5_2.set (x39_2 : Int).toNat (rd y141 (Int.tmod (wrap64 (0 + t133)) 4))) t133 (x5_1.length : Int) (wrap64 (x39_2 + 1)) s0_0 t139 t140) else (none)) else (none)) else (none)) else (none)) = some (r1,r2,r3,r4):=HY H hy141;have Ny141:=AM hy141;clear hy141;obtain ⟨ji36,hji36⟩ : ∃ j_ : Int,(Int.tmod (wrap64 (0 + t133)) 4) = j_:=⟨_,rfl⟩;replace H : (if 0 ≤ (ji36) then (if (ji36) < (y141.length : Int) then (if 0 ≤ x39_2 then (if x39_2 < (x5_2.length : Int) then (spec_l1Cur_opposite.l1 kj28 (wrap64 (1 + t116)) (x5_2.set (x39_2 : Int).toNat (rd y141 (ji36))) t133 (x5_1.length : Int) (wrap64 (x39_2 + 1)) s0_0 t139 t140) else (none)) else (none)) else (none)) else (none)) = some (r1,r2,r3,r4):=by first|(rw [hji36] at H;exact H)|(simp only [hji36] at H ⊢;exact H)
             have hji36z:=hji36
             (try simp only [Int.zero_add] at hji36z)
             (try rw [hji36] at A33);replace H:=IC H;obtain ⟨c37,H⟩:=H;have c37b0:=DT c37;clear c37;replace H:=IC H;obtain ⟨c38,H⟩:=H;have c38b0:=DT c38;clear c38;have c38b0h:=c38b0
             (try simp only [hl5_1] at c38b0h)
             (try simp only [hl5_2] at c38b0h);replace H:=IC H;obtain ⟨c39,H⟩:=H;have c39b0:=DT c39;clear c39;replace H:=IC H;obtain ⟨c40,H⟩:=H;have c40b0:=DT c40;clear c40;have c40b0h:=c40b0
             (try simp only [hl5_1] at c40b0h)
             (try simp only [hl5_2] at c40b0h);obtain ⟨y145,hy145⟩ : ∃ y_ : List Int,y_ = (x5_2.set (x39_2 : Int).toNat (rd y141 (ji36))):=⟨_,rfl⟩;replace H : (spec_l1Cur_opposite.l1 kj28 (wrap64 (1 + t116)) y145 t133 (x5_1.length : Int) (wrap64 (x39_2 + 1)) s0_0 t139 t140) = some (r1,r2,r3,r4):=HY H hy145;have Ny145:=AM hy145;clear hy145;have H':=AM H;clear H;go_wp2_with (first|(refine GC 40 ?_;refine GM (some 84) Try.func40 (spec_l1Cur_one.calls g s0_0 x1001_2 x1002_2 9 false t139 t140 w0 _ AHI AHB A33.out) ?_;rintro e w42 ⟨rfl,hi,hb,hk⟩;refine ⟨_,rfl,?_⟩;replace HO_5:=AM (Kd.R_mono (Kd.R_keep (IsS59.apart (show IsS59 w0 _ g s0_0 x1001_2 x1002_2 from AHI) (KR HO_5) (by decide)) hk (fun _ h=>h.2)) (fun _ h=>h.1));replace HK:=HX hk;replace HB:=AM hb;replace HI0:=AM hi;try clear hb hk hi)|((with_reducible refine gate_dst (N:=88) rfl ?_);refine Kd.R_lit (Kd.int .i64) _ 3 ?hg (N:=88) ?hd (xs:=([1,2,(-1),(-2)] : List Int)) (inner:=[.int .i64 1,.int .i64 2,.int .i64 (-1),.int .i64 (-2)]) (ok:=fun _=>True) (okp:=fun _=>True) ?hr ?hp (fun _ hk=>hk) trivial (Below.refl _ _) (Nat.le_refl _) (by simp) ?_;(case hd=>rfl);(case hg=>rfl);(case hr=>exact GS);(case hp=>exact (Reps.one (show Kd.M (Kd.int .i64) _ _ _ 1 [.int .i64 1] from rfl) (Reps.one (show Kd.M (Kd.int .i64) _ _ _ 2 [.int .i64 2] from rfl) (Reps.one (show Kd.M (Kd.int .i64) _ _ _ (-1) [.int .i64 (-1)] from rfl) (Reps.one (show Kd.M (Kd.int .i64) _ _ _ (-2) [.int .i64 (-2)] from rfl) (Reps.none _ _))))));intro v142 w43 ho44 hb hg_ hnew_;clear hg_ hnew_;(first|rw [← Ny141.out] at ho44|(simp only [Int.reduceToNat] at ho44;rw [← Ny141.out] at ho44));have HO143:=AM (Kd.R_lower (Kd.R_new' ho44 (Kd.R_lt (KR HO_5))) (keep_size (w:=w) (g:=g) (row:=none) AHK));replace HO_5:=RO HO_5 ho44 hb;replace HK:=AM (KeepBut.trans AHK (KeepBut.of_below hb g none) (.inl rfl));replace HB:=AM (below_step AHB hb);replace HI0:=AM (IsS59.below AHI hb);clear hb ho44;obtain ⟨Ao45,co45,eo45⟩:=Kd.R_slice HO143.out;subst eo45;have p144 : 0 ≤ ((ji36) : Int):=OD AS;have q144 : (ji36) < (y141.length : Int):=OD AS;obtain ⟨ad144,e144,hx144_0⟩:=Kd.at_int (Kd.R_reads' HO143.out).2.2 (ji36) p144 q144;cases e144;replace p144:=ET p144;replace q144:=ET q144;have p41 : 0 ≤ (x39_2 : Int):=OD AS;have q41 : (x39_2 : Int) < ((x5_2.length : Int) : Int):=OD AS;obtain ⟨go41,co41,eo41,gb41,gl41,cl41,HG41⟩:=Kd.R_form HO_5.out (by omega);(first|cases eo41|(injection eo41 with ea_ en_ ec_;(first|subst ea_|(injection ea_ with ea_;subst ea_));subst ec_;clear en_));have GB41:=AM gb41;have GG41:=AM HG41;clear gb41 gl41 HG41;obtain ⟨hx41_0,hf41_0⟩:=Kd.R_celln 0 HO_5.out (x39_2 : Int) p41 q41;replace p41:=ET p41;replace q41:=ET q41;have n_:=AM (Kd.R_mono (ok':=(fun k_=>some k_≠(.slice (some ad144) y141.length co45 : Value).ownBlock)) HO_5.out (fun k_ hk=>hk.2));clear HO_5;have HO_5:=n_;clear n_;obtain ⟨hy46_,hz46_⟩:=Kd.R_celln 0 HO_5.out (x39_2 : Int) (OD AS) (OD AS);have HP46:=Kd.R_putg HO_5.out (x39_2 : Int) (rd y141 (ji36)))|((with_reducible refine gate_store (t:=3) (p:=95) rfl ?_);refine store_event (t:=3) (p:=95) (v:=?vo_w47) (w1:=(w43.setCell ⟨go41,(x39_2 : Int).toNat,none⟩ (.int .i64 (rd y141 (ji36))))) ?hg ?ho ?hn ?hr ?_;(case ho=>rfl);(case hg=>rfl);(case hn=>rfl);(case hr=>exact GS);intro w47 hw;have hg : w43.grownBy w47 (some go41):=(by rw [hw];exact HP46.2);have hp_ : Kd.R (Kd.int .i64) 3 w47 w.heap.size (fun k_=>some k_≠(.slice (some ad144) y141.length co45 : Value).ownBlock) (.slice (some ⟨go41,0,none⟩) x5_2.length co9) y145:=(by rw [hw,Ny145.out];exact HP46.1);clear HP46;replace HI0:=AM (IsS59.grown AHI hg (IsS59.own_ne HI0.out HO_5.out (by decide)));replace HO143:=AM (Kd.R_after (v:=(.slice (some ⟨go41,0,none⟩) x5_2.length co9)) (v1:=(.slice (some ⟨go41,0,none⟩) x5_2.length co9)) (ok:=(fun _=>True)) (KR HO143) hg (.inl rfl));replace HB:=AM ((by rw [hw];exact below_set (HB.out) (Nat.le_trans HL.out GB41.out) : Below w0.heap.size w0 w47));replace HK:=AM (KeepBut.trans AHK (KeepBut.of_grown hg g) (Kd.R_base2 HO_5.out));replace HO_5:=AM hp_;clear hg hw hp_))
             (try simp only [← hl5_2]);go_roundg kj28
             case measure=>have:=HK1.out;have:=HK2.out;have:=HJ28.out;omega
             case rel=>exact ⟨(y145),(wrap64 (x39_2 + 1)),(t139),(t140),RF,H',⟨by have:=HK1.out;have:=HK2.out;have:=HJ28.out;omega⟩,⟨by (try simp only [hl5_1]);(try simp only [hl5_2]);(with_reducible repeat (first|apply Kd.R_alloc|apply Kd.R_drewN|apply Kd.R_drew));exact Kd.R_mono HO_5.out (fun _ hk=>trivial)⟩,⟨AHI⟩,⟨AHK⟩,⟨AHB⟩⟩
           ·replace c32:=NF c32;subst c32;replace H:=IN H;have HC48:=AM H;clear H;go_upto_region 17 with (fail)
            go_cut [61] (fun v61 wc=>∃ (kq : Nat) (x61_47 : Bool),v61 = .bool x61_47∧Aside0 (spec_l1Cur_opposite.j3 kq (wrap64 (1 + t116)) x5_2 t133 x39_2 t136 t137 3 (x5_1.length : Int) x39_2 x61_47 s0_0 x1001_2 x1002_2 = some (r1,r2,r3,r4))∧Aside0 (kq ≤ kj28)∧Aside0 (Kd.R (Kd.int .i64) 3 wc w.heap.size (fun _=>True) (.slice Ao9 x5_2.length co9) x5_2)∧Aside0 (IsS59 w0 wc g s0_0 x1001_2 x1002_2)∧Aside0 (KeepBut w wc g none)∧Aside0 (Below w0.heap.size w0 wc))
            case first =>
             have H:=HC48.out;clear HC48;by_cases c49 : t137 > 0
             ·rw [if_pos c49] at H;have c49b0:=DT c49;clear c49
              (first|rw [c49b0]|(simp only [i64_w,i32_w];rw [c49b0])|skip);replace H:=EA H;obtain ⟨t146,A50,H⟩:=H;have H':=AM H;clear H;go_wp2_with (first|(go_at_call 70;(with_reducible refine (spec_l1Abs.calls t136 t146 _ A50.out).mono ?_);rintro e w' ⟨rfl,⟨nd,rfl⟩⟩));go_meet
              case rel=>exact ⟨_,(decide (t146 ≤ t137)),RF,H',⟨by have:=HK1.out;have:=HK2.out;have:=HJ28.out;first|omega|exact Nat.le_refl _⟩,⟨by (try simp only [hl5_1]);(try simp only [hl5_2]);(with_reducible repeat (first|apply Kd.R_alloc|apply Kd.R_drewN|apply Kd.R_drew));exact HO_5.out⟩,⟨AHI⟩,⟨AHK⟩,⟨AHB⟩⟩
             ·rw [if_neg c49] at H;have c49b0:=DF c49;clear c49
              (first|rw [c49b0]|(simp only [i64_w,i32_w];rw [c49b0])|skip);have H':=AM H;clear H;go_wp2;go_meet
              case rel=>exact ⟨_,(false),RF,H',⟨by have:=HK1.out;have:=HK2.out;have:=HJ28.out;first|omega|exact Nat.le_refl _⟩,⟨by (try simp only [hl5_1]);(try simp only [hl5_2]);(with_reducible repeat (first|apply Kd.R_alloc|apply Kd.R_drewN|apply Kd.R_drew));exact HO_5.out⟩,⟨AHI⟩,⟨AHK⟩,⟨AHB⟩⟩
            case rest =>
             clear HC48;try clear c1
             try clear p1
             try clear q1
             try clear hx1
             try clear hf1
             try clear c2
             try clear p2
             try clear c3
             try clear c4
             try clear c4b0
             try clear c4b1
             try clear p4
             try clear q4
             try clear hx4
             try clear hf4
             try clear c5
             try clear c5b0
             try clear c5b1
             try clear c6
             try clear p6
             try clear c10
             try clear c10b0
             try clear c12
             try clear c12b0
             try clear c13
             try clear c13b0
             try clear p14
             try clear q14
             try clear hx14
             try clear hf14
             try clear c24
             try clear c27
             try clear c27b0
             try clear c30
             try clear c30b0
             try clear c31
             try clear c31b0
             try clear c32
             try clear c34
             try clear c37
             try clear c37b0
             try clear c38
             try clear c38b0
             try clear c39
             try clear c39b0
             try clear c40
             try clear c40b0
             try clear c41
             try clear p41
             try clear q41
             try clear hx41
             try clear hf41
             try clear c49
             try clear c49b0
             try clear hx144_0
             try clear hx14_0
             try clear hx41_0
             try clear p1
             try clear p14
             try clear p144
             try clear p2
             try clear p41
             try clear p6
             try clear q1
             try clear q14
             try clear q144
             try clear q41
             obtain ⟨kq,x61_47,rfl,HA,HJ47,HO_5,HI0,HK,HB⟩:=hcut;cases kq with
             | zero=>exact absurd HA.out (by simp [spec_l1Cur_opposite.j3])
             | succ kj47 =>
              have H:=HA.out;clear HA;simp only [spec_l1Cur_opposite.j3] at H;by_cases c51 : x61_47 = true
              ·subst c51;replace H:=IP H;replace H:=EA H;obtain ⟨⟨t147,t148,t149⟩,A52,H⟩:=H;try dsimp only at H
               by_cases c53 : t147 = true
               ·subst c53;replace H:=IP H;have H':=AM H;clear H;go_wp2_with (first|(refine GC 40 ?_;refine GM (some 84) Try.func40 (spec_l1Cur_one.calls g s0_0 x1001_2 x1002_2 9 true t148 t149 w0 _ AHI AHB A52.out) ?_;rintro e w54 ⟨rfl,hi,hb,hk⟩;refine ⟨_,rfl,?_⟩;replace HO_5:=AM (Kd.R_mono (Kd.R_keep (IsS59.apart (show IsS59 w0 _ g s0_0 x1001_2 x1002_2 from AHI) (KR HO_5) (by decide)) hk (fun _ h=>h.2)) (fun _ h=>h.1));replace HK:=HX hk;replace HB:=AM hb;replace HI0:=AM hi;try clear hb hk hi))
                (try simp only [← hl5_2]);go_roundg kj47
                case measure=>have:=HK1.out;have:=HK2.out;have:=HJ28.out;have:=HJ47.out;omega
                case rel=>exact ⟨(x5_2),(wrap64 (x39_2 + 1)),(t148),(t149),RF,H',⟨by have:=HK1.out;have:=HK2.out;have:=HJ28.out;have:=HJ47.out;omega⟩,⟨by (try simp only [hl5_1]);(try simp only [hl5_2]);(with_reducible repeat (first|apply Kd.R_alloc|apply Kd.R_drewN|apply Kd.R_drew));exact HO_5.out⟩,⟨AHI⟩,⟨AHK⟩,⟨AHB⟩⟩
               ·replace c53:=NF c53;subst c53;replace H:=IN H;obtain ⟨y150,hy150⟩ : ∃ y_ : List Int,y_ = (([1,2,(-1),(-2)] : List Int)):=⟨_,rfl⟩;replace H : (if 0 ≤ (Int.tmod (wrap64 (1 + t133)) 4) then (if (Int.tmod (wrap64 (1 + t133)) 4) < (y150.length : Int) then (if 0 ≤ x39_2 then (if x39_2 < (x5_2.length : Int) then (spec_l1Cur_opposite.l1 kj47 (wrap64 (1 + t116)) (x5_2.set (x39_2 : Int).toNat (rd y150 (Int.tmod (wrap64 (1 + t133)) 4))) t133 (x5_1.length : Int) (wrap64 (x39_2 + 1)) s0_0 t148 t149) else (none)) else (none)) else (none)) else (none)) = some (r1,r2,r3,r4):=HY H hy150;have Ny150:=AM hy150;clear hy150;obtain ⟨ji55,hji55⟩ : ∃ j_ : Int,(Int.tmod (wrap64 (1 + t133)) 4) = j_:=⟨_,rfl⟩;replace H : (if 0 ≤ (ji55) then (if (ji55) < (y150.length : Int) then (if 0 ≤ x39_2 then (if x39_2 < (x5_2.length : Int) then (spec_l1Cur_opposite.l1 kj47 (wrap64 (1 + t116)) (x5_2.set (x39_2 : Int).toNat (rd y150 (ji55))) t133 (x5_1.length : Int) (wrap64 (x39_2 + 1)) s0_0 t148 t149) else (none)) else (none)) else (none)) else (none)) = some (r1,r2,r3,r4):=by first|(rw [hji55] at H;exact H)|(simp only [hji55] at H ⊢;exact H)
                (try rw [hji55] at A52);replace H:=IC H;obtain ⟨c56,H⟩:=H;have c56b0:=DT c56;clear c56;replace H:=IC H;obtain ⟨c57,H⟩:=H;have c57b0:=DT c57;clear c57;have c57b0h:=c57b0
                (try simp only [hl5_1] at c57b0h)
                (try simp only [hl5_2] at c57b0h);replace H:=IC H;obtain ⟨c58,H⟩:=H;have c58b0:=DT c58;clear c58;replace H:=IC H;obtain ⟨c59,H⟩:=H;have c59b0:=DT c59;clear c59;have c59b0h:=c59b0
                (try simp only [hl5_1] at c59b0h)
                (try simp only [hl5_2] at c59b0h);obtain ⟨y154,hy154⟩ : ∃ y_ : List Int,y_ = (x5_2.set (x39_2 : Int).toNat (rd y150 (ji55))):=⟨_,rfl⟩;replace H : (spec_l1Cur_opposite.l1 kj47 (wrap64 (1 + t116)) y154 t133 (x5_1.length : Int) (wrap64 (x39_2 + 1)) s0_0 t148 t149) = some (r1,r2,r3,r4):=HY H hy154;have Ny154:=AM hy154;clear hy154;have H':=AM H;clear H;go_wp2_with (first|(refine GC 40 ?_;refine GM (some 84) Try.func40 (spec_l1Cur_one.calls g s0_0 x1001_2 x1002_2 9 false t148 t149 w0 _ AHI AHB A52.out) ?_;rintro e w61 ⟨rfl,hi,hb,hk⟩;refine ⟨_,rfl,?_⟩;replace HO_5:=AM (Kd.R_mono (Kd.R_keep (IsS59.apart (show IsS59 w0 _ g s0_0 x1001_2 x1002_2 from AHI) (KR HO_5) (by decide)) hk (fun _ h=>h.2)) (fun _ h=>h.1));replace HK:=HX hk;replace HB:=AM hb;replace HI0:=AM hi;try clear hb hk hi)|((with_reducible refine gate_dst (N:=88) rfl ?_);refine Kd.R_lit (Kd.int .i64) _ 3 ?hg (N:=88) ?hd (xs:=([1,2,(-1),(-2)] : List Int)) (inner:=[.int .i64 1,.int .i64 2,.int .i64 (-1),.int .i64 (-2)]) (ok:=fun _=>True) (okp:=fun _=>True) ?hr ?hp (fun _ hk=>hk) trivial (Below.refl _ _) (Nat.le_refl _) (by simp) ?_;(case hd=>rfl);(case hg=>rfl);(case hr=>exact GS);(case hp=>exact (Reps.one (show Kd.M (Kd.int .i64) _ _ _ 1 [.int .i64 1] from rfl) (Reps.one (show Kd.M (Kd.int .i64) _ _ _ 2 [.int .i64 2] from rfl) (Reps.one (show Kd.M (Kd.int .i64) _ _ _ (-1) [.int .i64 (-1)] from rfl) (Reps.one (show Kd.M (Kd.int .i64) _ _ _ (-2) [.int .i64 (-2)] from rfl) (Reps.none _ _))))));intro v151 w62 ho63 hb hg_ hnew_;clear hg_ hnew_;(first|rw [← Ny150.out] at ho63|(simp only [Int.reduceToNat] at ho63;rw [← Ny150.out] at ho63));have HO152:=AM (Kd.R_lower (Kd.R_new' ho63 (Kd.R_lt (KR HO_5))) (keep_size (w:=w) (g:=g) (row:=none) AHK));replace HO_5:=RO HO_5 ho63 hb;replace HK:=AM (KeepBut.trans AHK (KeepBut.of_below hb g none) (.inl rfl));replace HB:=AM (below_step AHB hb);replace HI0:=AM (IsS59.below AHI hb);clear hb ho63;obtain ⟨Ao64,co64,eo64⟩:=Kd.R_slice HO152.out;subst eo64;have p153 : 0 ≤ ((ji55) : Int):=OD AS;have q153 : (ji55) < (y150.length : Int):=OD AS;obtain ⟨ad153,e153,hx153_0⟩:=Kd.at_int (Kd.R_reads' HO152.out).2.2 (ji55) p153 q153;cases e153;replace p153:=ET p153;replace q153:=ET q153;have p60 : 0 ≤ (x39_2 : Int):=OD AS;have q60 : (x39_2 : Int) < ((x5_2.length : Int) : Int):=OD AS;obtain ⟨go60,co60,eo60,gb60,gl60,cl60,HG60⟩:=Kd.R_form HO_5.out (by omega);(first|cases eo60|(injection eo60 with ea_ en_ ec_;(first|subst ea_|(injection ea_ with ea_;subst ea_));subst ec_;clear en_));have GB60:=AM gb60;have GG60:=AM HG60;clear gb60 gl60 HG60;obtain ⟨hx60_0,hf60_0⟩:=Kd.R_celln 0 HO_5.out (x39_2 : Int) p60 q60;replace p60:=ET p60;replace q60:=ET q60;have n_:=AM (Kd.R_mono (ok':=(fun k_=>some k_≠(.slice (some ad153) y150.length co64 : Value).ownBlock)) HO_5.out (fun k_ hk=>hk.2));clear HO_5;have HO_5:=n_;clear n_;obtain ⟨hy65_,hz65_⟩:=Kd.R_celln 0 HO_5.out (x39_2 : Int) (OD AS) (OD AS);have HP65:=Kd.R_putg HO_5.out (x39_2 : Int) (rd y150 (ji55)))|((with_reducible refine gate_store (t:=3) (p:=95) rfl ?_);refine store_event (t:=3) (p:=95) (v:=?vo_w66) (w1:=(w62.setCell ⟨go60,(x39_2 : Int).toNat,none⟩ (.int .i64 (rd y150 (ji55))))) ?hg ?ho ?hn ?hr ?_;(case ho=>rfl);(case hg=>rfl);(case hn=>rfl);(case hr=>exact GS);intro w66 hw;have hg : w62.grownBy w66 (some go60):=(by rw [hw];exact HP65.2);have hp_ : Kd.R (Kd.int .i64) 3 w66 w.heap.size (fun k_=>some k_≠(.slice (some ad153) y150.length co64 : Value).ownBlock) (.slice (some ⟨go60,0,none⟩) x5_2.length co9) y154:=(by rw [hw,Ny154.out];exact HP65.1);clear HP65;replace HI0:=AM (IsS59.grown AHI hg (IsS59.own_ne HI0.out HO_5.out (by decide)));replace HO152:=AM (Kd.R_after (v:=(.slice (some ⟨go60,0,none⟩) x5_2.length co9)) (v1:=(.slice (some ⟨go60,0,none⟩) x5_2.length co9)) (ok:=(fun _=>True)) (KR HO152) hg (.inl rfl));replace HB:=AM ((by rw [hw];exact below_set (HB.out) (Nat.le_trans HL.out GB60.out) : Below w0.heap.size w0 w66));replace HK:=AM (KeepBut.trans AHK (KeepBut.of_grown hg g) (Kd.R_base2 HO_5.out));replace HO_5:=AM hp_;clear hg hw hp_))
                (try simp only [← hl5_2]);go_roundg kj47
                case measure=>have:=HK1.out;have:=HK2.out;have:=HJ28.out;have:=HJ47.out;omega
                case rel=>exact ⟨(y154),(wrap64 (x39_2 + 1)),(t148),(t149),RF,H',⟨by have:=HK1.out;have:=HK2.out;have:=HJ28.out;have:=HJ47.out;omega⟩,⟨by (try simp only [hl5_1]);(try simp only [hl5_2]);(with_reducible repeat (first|apply Kd.R_alloc|apply Kd.R_drewN|apply Kd.R_drew));exact Kd.R_mono HO_5.out (fun _ hk=>trivial)⟩,⟨AHI⟩,⟨AHK⟩,⟨AHB⟩⟩
              ·replace c51:=NF c51;subst c51;replace H:=IN H;have HC67:=AM H;clear H;go_upto_region 19 with (fail)
               go_cut [70] (fun v70 wc=>∃ (kq : Nat) (x70_66 : Bool),v70 = .bool x70_66∧Aside0 (spec_l1Cur_opposite.j4 kq (wrap64 (1 + t116)) x5_2 t133 x39_2 3 (x5_1.length : Int) x39_2 x70_66 s0_0 x1001_2 x1002_2 = some (r1,r2,r3,r4))∧Aside0 (kq ≤ kj47)∧Aside0 (Kd.R (Kd.int .i64) 3 wc w.heap.size (fun _=>True) (.slice Ao9 x5_2.length co9) x5_2)∧Aside0 (IsS59 w0 wc g s0_0 x1001_2 x1002_2)∧Aside0 (KeepBut w wc g none)∧Aside0 (Below w0.heap.size w0 wc))
               case first =>
                have H:=HC67.out;clear HC67;by_cases c68 : t136 < 0
                ·rw [if_pos c68] at H;have c68b0:=DT c68;clear c68
                 (first|rw [c68b0]|(simp only [i64_w,i32_w];rw [c68b0])|skip);by_cases c69 : t137 ≥ 0
                 ·rw [if_pos c69] at H;have c69b0:=DT c69;clear c69;have H':=AM H;clear H;go_wp2;go_meet
                  case rel=>exact ⟨_,(decide (t137 ≤ (wrap64 (-t136)))),RF,H',⟨by have:=HK1.out;have:=HK2.out;have:=HJ28.out;have:=HJ47.out;first|omega|exact Nat.le_refl _⟩,⟨by (try simp only [hl5_1]);(try simp only [hl5_2]);(with_reducible repeat (first|apply Kd.R_alloc|apply Kd.R_drewN|apply Kd.R_drew));exact HO_5.out⟩,⟨AHI⟩,⟨AHK⟩,⟨AHB⟩⟩
                 ·rw [if_neg c69] at H;have c69b0:=DF c69;clear c69;have H':=AM H;clear H;go_wp2;go_meet
                  case rel=>exact ⟨_,(false),RF,H',⟨by have:=HK1.out;have:=HK2.out;have:=HJ28.out;have:=HJ47.out;first|omega|exact Nat.le_refl _⟩,⟨by (try simp only [hl5_1]);(try simp only [hl5_2]);(with_reducible repeat (first|apply Kd.R_alloc|apply Kd.R_drewN|apply Kd.R_drew));exact HO_5.out⟩,⟨AHI⟩,⟨AHK⟩,⟨AHB⟩⟩
                ·rw [if_neg c68] at H;have c68b0:=DF c68;clear c68
                 (first|rw [c68b0]|(simp only [i64_w,i32_w];rw [c68b0])|skip);have H':=AM H;clear H;go_wp2;go_meet
                 case rel=>exact ⟨_,(false),RF,H',⟨by have:=HK1.out;have:=HK2.out;have:=HJ28.out;have:=HJ47.out;first|omega|exact Nat.le_refl _⟩,⟨by (try simp only [hl5_1]);(try simp only [hl5_2]);(with_reducible repeat (first|apply Kd.R_alloc|apply Kd.R_drewN|apply Kd.R_drew));exact HO_5.out⟩,⟨AHI⟩,⟨AHK⟩,⟨AHB⟩⟩
               case rest =>
                clear HC67;try clear c1
                try clear p1
                try clear q1
                try clear hx1
                try clear hf1
                try clear c2
                try clear p2
                try clear c3
                try clear c4
                try clear c4b0
                try clear c4b1
                try clear p4
                try clear q4
                try clear hx4
                try clear hf4
                try clear c5
                try clear c5b0
                try clear c5b1
                try clear c6
                try clear p6
                try clear q6
                try clear hx6
                try clear hf6
                try clear c10
                try clear c10b0
                try clear c12
                try clear c12b0
                try clear c13
                try clear c13b0
                try clear p14
                try clear q14
                try clear hx14
                try clear hf14
                try clear p15
                try clear q15
                try clear hx15
                try clear c24
                try clear c27
                try clear c27b0
                try clear c30
                try clear c30b0
                try clear c31
                try clear c31b0
                try clear c32
                try clear c34
                try clear c37
                try clear c37b0
                try clear c38
                try clear c38b0
                try clear c39
                try clear c39b0
                try clear c40
                try clear c40b0
                try clear c41
                try clear p41
                try clear q41
                try clear hx41
                try clear hf41
                try clear c49
                try clear c49b0
                try clear c51
                try clear c53
                try clear c56
                try clear c56b0
                try clear c57
                try clear c57b0
                try clear c58
                try clear c58b0
                try clear c59
                try clear c59b0
                try clear p60
                try clear q60
                try clear hx60
                try clear hf60
                try clear p64
                try clear c68
                try clear c68b0
                try clear c69
                try clear c69b0
                try clear hx144_0
                try clear hx14_0
                try clear hx153_0
                try clear hx41_0
                try clear hx60_0
                try clear p1
                try clear p14
                try clear p144
                try clear p153
                try clear p2
                try clear p4
                try clear p41
                try clear p6
                try clear p60
                try clear q1
                try clear q14
                try clear q144
                try clear q153
                try clear q4
                try clear q41
                try clear q60
                obtain ⟨kq,x70_66,rfl,HA,HJ66,HO_5,HI0,HK,HB⟩:=hcut;cases kq with
                | zero=>exact absurd HA.out (by simp [spec_l1Cur_opposite.j4])
                | succ kj66 =>
                 have H:=HA.out;clear HA;simp only [spec_l1Cur_opposite.j4] at H;by_cases c70 : x70_66 = true
                 ·subst c70;replace H:=IP H;replace H:=EA H;obtain ⟨⟨t155,t156,t157⟩,A71,H⟩:=H;try dsimp only at H
                  by_cases c72 : t155 = true
                  ·subst c72;replace H:=IP H;have H':=AM H;clear H;go_wp2_with (first|(refine GC 40 ?_;refine GM (some 84) Try.func40 (spec_l1Cur_one.calls g s0_0 x1001_2 x1002_2 9 true t156 t157 w0 _ AHI AHB A71.out) ?_;rintro e w73 ⟨rfl,hi,hb,hk⟩;refine ⟨_,rfl,?_⟩;replace HO_5:=AM (Kd.R_mono (Kd.R_keep (IsS59.apart (show IsS59 w0 _ g s0_0 x1001_2 x1002_2 from AHI) (KR HO_5) (by decide)) hk (fun _ h=>h.2)) (fun _ h=>h.1));replace HK:=HX hk;replace HB:=AM hb;replace HI0:=AM hi;try clear hb hk hi))
                   (try simp only [← hl5_2]);go_roundg kj66
                   case measure=>have:=HK1.out;have:=HK2.out;have:=HJ28.out;have:=HJ47.out;have:=HJ66.out;omega
                   case rel=>exact ⟨(x5_2),(wrap64 (x39_2 + 1)),(t156),(t157),RF,H',⟨by have:=HK1.out;have:=HK2.out;have:=HJ28.out;have:=HJ47.out;have:=HJ66.out;omega⟩,⟨by (try simp only [hl5_1]);(try simp only [hl5_2]);(with_reducible repeat (first|apply Kd.R_alloc|apply Kd.R_drewN|apply Kd.R_drew));exact HO_5.out⟩,⟨AHI⟩,⟨AHK⟩,⟨AHB⟩⟩
                  ·replace c72:=NF c72;subst c72;replace H:=IN H;obtain ⟨y158,hy158⟩ : ∃ y_ : List Int,y_ = (([1,2,(-1),(-2)] : List Int)):=⟨_,rfl⟩;replace H : (if 0 ≤ (Int.tmod (wrap64 (2 + t133)) 4) then (if (Int.tmod (wrap64 (2 + t133)) 4) < (y158.length : Int) then (if 0 ≤ x39_2 then (if x39_2 < (x5_2.length : Int) then (spec_l1Cur_opposite.l1 kj66 (wrap64 (1 + t116)) (x5_2.set (x39_2 : Int).toNat (rd y158 (Int.tmod (wrap64 (2 + t133)) 4))) t133 (x5_1.length : Int) (wrap64 (x39_2 + 1)) s0_0 t156 t157) else (none)) else (none)) else (none)) else (none)) = some (r1,r2,r3,r4):=HY H hy158;have Ny158:=AM hy158;clear hy158;obtain ⟨ji74,hji74⟩ : ∃ j_ : Int,(Int.tmod (wrap64 (2 + t133)) 4) = j_:=⟨_,rfl⟩;replace H : (if 0 ≤ (ji74) then (if (ji74) < (y158.length : Int) then (if 0 ≤ x39_2 then (if x39_2 < (x5_2.length : Int) then (spec_l1Cur_opposite.l1 kj66 (wrap64 (1 + t116)) (x5_2.set (x39_2 : Int).toNat (rd y158 (ji74))) t133 (x5_1.length : Int) (wrap64 (x39_2 + 1)) s0_0 t156 t157) else (none)) else (none)) else (none)) else (none)) = some (r1,r2,r3,r4):=by first|(rw [hji74] at H;exact H)|(simp only [hji74] at H ⊢;exact H)
                   (try rw [hji74] at A71);replace H:=IC H;obtain ⟨c75,H⟩:=H;have c75b0:=DT c75;clear c75;replace H:=IC H;obtain ⟨c76,H⟩:=H;have c76b0:=DT c76;clear c76;have c76b0h:=c76b0
                   (try simp only [hl5_1] at c76b0h)
                   (try simp only [hl5_2] at c76b0h);replace H:=IC H;obtain ⟨c77,H⟩:=H;have c77b0:=DT c77;clear c77;replace H:=IC H;obtain ⟨c78,H⟩:=H;have c78b0:=DT c78;clear c78;have c78b0h:=c78b0
                   (try simp only [hl5_1] at c78b0h)
                   (try simp only [hl5_2] at c78b0h);obtain ⟨y162,hy162⟩ : ∃ y_ : List Int,y_ = (x5_2.set (x39_2 : Int).toNat (rd y158 (ji74))):=⟨_,rfl⟩;replace H : (spec_l1Cur_opposite.l1 kj66 (wrap64 (1 + t116)) y162 t133 (x5_1.length : Int) (wrap64 (x39_2 + 1)) s0_0 t156 t157) = some (r1,r2,r3,r4):=HY H hy162;have Ny162:=AM hy162;clear hy162;have H':=AM H;clear H;go_wp2_with (first|(refine GC 40 ?_;refine GM (some 84) Try.func40 (spec_l1Cur_one.calls g s0_0 x1001_2 x1002_2 9 false t156 t157 w0 _ AHI AHB A71.out) ?_;rintro e w80 ⟨rfl,hi,hb,hk⟩;refine ⟨_,rfl,?_⟩;replace HO_5:=AM (Kd.R_mono (Kd.R_keep (IsS59.apart (show IsS59 w0 _ g s0_0 x1001_2 x1002_2 from AHI) (KR HO_5) (by decide)) hk (fun _ h=>h.2)) (fun _ h=>h.1));replace HK:=HX hk;replace HB:=AM hb;replace HI0:=AM hi;try clear hb hk hi)|((with_reducible refine gate_dst (N:=88) rfl ?_);refine Kd.R_lit (Kd.int .i64) _ 3 ?hg (N:=88) ?hd (xs:=([1,2,(-1),(-2)] : List Int)) (inner:=[.int .i64 1,.int .i64 2,.int .i64 (-1),.int .i64 (-2)]) (ok:=fun _=>True) (okp:=fun _=>True) ?hr ?hp (fun _ hk=>hk) trivial (Below.refl _ _) (Nat.le_refl _) (by simp) ?_;(case hd=>rfl);(case hg=>rfl);(case hr=>exact GS);(case hp=>exact (Reps.one (show Kd.M (Kd.int .i64) _ _ _ 1 [.int .i64 1] from rfl) (Reps.one (show Kd.M (Kd.int .i64) _ _ _ 2 [.int .i64 2] from rfl) (Reps.one (show Kd.M (Kd.int .i64) _ _ _ (-1) [.int .i64 (-1)] from rfl) (Reps.one (show Kd.M (Kd.int .i64) _ _ _ (-2) [.int .i64 (-2)] from rfl) (Reps.none _ _))))));intro v159 w81 ho82 hb hg_ hnew_;clear hg_ hnew_;(first|rw [← Ny158.out] at ho82|(simp only [Int.reduceToNat] at ho82;rw [← Ny158.out] at ho82));have HO160:=AM (Kd.R_lower (Kd.R_new' ho82 (Kd.R_lt (KR HO_5))) (keep_size (w:=w) (g:=g) (row:=none) AHK));replace HO_5:=RO HO_5 ho82 hb;replace HK:=AM (KeepBut.trans AHK (KeepBut.of_below hb g none) (.inl rfl));replace HB:=AM (below_step AHB hb);replace HI0:=AM (IsS59.below AHI hb);clear hb ho82;obtain ⟨Ao83,co83,eo83⟩:=Kd.R_slice HO160.out;subst eo83;have p161 : 0 ≤ ((ji74) : Int):=OD AS;have q161 : (ji74) < (y158.length : Int):=OD AS;obtain ⟨ad161,e161,hx161_0⟩:=Kd.at_int (Kd.R_reads' HO160.out).2.2 (ji74) p161 q161;cases e161;replace p161:=ET p161;replace q161:=ET q161;have p79 : 0 ≤ (x39_2 : Int):=OD AS;have q79 : (x39_2 : Int) < ((x5_2.length : Int) : Int):=OD AS;obtain ⟨go79,co79,eo79,gb79,gl79,cl79,HG79⟩:=Kd.R_form HO_5.out (by omega);(first|cases eo79|(injection eo79 with ea_ en_ ec_;(first|subst ea_|(injection ea_ with ea_;subst ea_));subst ec_;clear en_));have GB79:=AM gb79;have GG79:=AM HG79;clear gb79 gl79 HG79;obtain ⟨hx79_0,hf79_0⟩:=Kd.R_celln 0 HO_5.out (x39_2 : Int) p79 q79;replace p79:=ET p79;replace q79:=ET q79;have n_:=AM (Kd.R_mono (ok':=(fun k_=>some k_≠(.slice (some ad161) y158.length co83 : Value).ownBlock)) HO_5.out (fun k_ hk=>hk.2));clear HO_5;have HO_5:=n_;clear n_;obtain ⟨hy84_,hz84_⟩:=Kd.R_celln 0 HO_5.out (x39_2 : Int) (OD AS) (OD AS);have HP84:=Kd.R_putg HO_5.out (x39_2 : Int) (rd y158 (ji74)))|((with_reducible refine gate_store (t:=3) (p:=95) rfl ?_);refine store_event (t:=3) (p:=95) (v:=?vo_w85) (w1:=(w81.setCell ⟨go79,(x39_2 : Int).toNat,none⟩ (.int .i64 (rd y158 (ji74))))) ?hg ?ho ?hn ?hr ?_;(case ho=>rfl);(case hg=>rfl);(case hn=>rfl);(case hr=>exact GS);intro w85 hw;have hg : w81.grownBy w85 (some go79):=(by rw [hw];exact HP84.2);have hp_ : Kd.R (Kd.int .i64) 3 w85 w.heap.size (fun k_=>some k_≠(.slice (some ad161) y158.length co83 : Value).ownBlock) (.slice (some ⟨go79,0,none⟩) x5_2.length co9) y162:=(by rw [hw,Ny162.out];exact HP84.1);clear HP84;replace HI0:=AM (IsS59.grown AHI hg (IsS59.own_ne HI0.out HO_5.out (by decide)));replace HO160:=AM (Kd.R_after (v:=(.slice (some ⟨go79,0,none⟩) x5_2.length co9)) (v1:=(.slice (some ⟨go79,0,none⟩) x5_2.length co9)) (ok:=(fun _=>True)) (KR HO160) hg (.inl rfl));replace HB:=AM ((by rw [hw];exact below_set (HB.out) (Nat.le_trans HL.out GB79.out) : Below w0.heap.size w0 w85));replace HK:=AM (KeepBut.trans AHK (KeepBut.of_grown hg g) (Kd.R_base2 HO_5.out));replace HO_5:=AM hp_;clear hg hw hp_))
                   (try simp only [← hl5_2]);go_roundg kj66
                   case measure=>have:=HK1.out;have:=HK2.out;have:=HJ28.out;have:=HJ47.out;have:=HJ66.out;omega
                   case rel=>exact ⟨(y162),(wrap64 (x39_2 + 1)),(t156),(t157),RF,H',⟨by have:=HK1.out;have:=HK2.out;have:=HJ28.out;have:=HJ47.out;have:=HJ66.out;omega⟩,⟨by (try simp only [hl5_1]);(try simp only [hl5_2]);(with_reducible repeat (first|apply Kd.R_alloc|apply Kd.R_drewN|apply Kd.R_drew));exact Kd.R_mono HO_5.out (fun _ hk=>trivial)⟩,⟨AHI⟩,⟨AHK⟩,⟨AHB⟩⟩
                 ·replace c70:=NF c70;subst c70;replace H:=IN H;replace H:=EA H;obtain ⟨⟨t163,t164,t165⟩,A86,H⟩:=H;try dsimp only at H
                  by_cases c87 : t163 = true
                  ·subst c87;replace H:=IP H;have H':=AM H;clear H;go_wp2_with (first|(refine GC 40 ?_;refine GM (some 84) Try.func40 (spec_l1Cur_one.calls g s0_0 x1001_2 x1002_2 9 true t164 t165 w0 _ AHI AHB A86.out) ?_;rintro e w88 ⟨rfl,hi,hb,hk⟩;refine ⟨_,rfl,?_⟩;replace HO_5:=AM (Kd.R_mono (Kd.R_keep (IsS59.apart (show IsS59 w0 _ g s0_0 x1001_2 x1002_2 from AHI) (KR HO_5) (by decide)) hk (fun _ h=>h.2)) (fun _ h=>h.1));replace HK:=HX hk;replace HB:=AM hb;replace HI0:=AM hi;try clear hb hk hi))
                   (try simp only [← hl5_2]);go_roundg kj66
                   case measure=>have:=HK1.out;have:=HK2.out;have:=HJ28.out;have:=HJ47.out;have:=HJ66.out;omega
                   case rel=>exact ⟨(x5_2),(wrap64 (x39_2 + 1)),(t164),(t165),RF,H',⟨by have:=HK1.out;have:=HK2.out;have:=HJ28.out;have:=HJ47.out;have:=HJ66.out;omega⟩,⟨by (try simp only [hl5_1]);(try simp only [hl5_2]);(with_reducible repeat (first|apply Kd.R_alloc|apply Kd.R_drewN|apply Kd.R_drew));exact HO_5.out⟩,⟨AHI⟩,⟨AHK⟩,⟨AHB⟩⟩
                  ·replace c87:=NF c87;subst c87;replace H:=IN H;obtain ⟨y166,hy166⟩ : ∃ y_ : List Int,y_ = (([1,2,(-1),(-2)] : List Int)):=⟨_,rfl⟩;replace H : (if 0 ≤ (Int.tmod (wrap64 (3 + t133)) 4) then (if (Int.tmod (wrap64 (3 + t133)) 4) < (y166.length : Int) then (if 0 ≤ x39_2 then (if x39_2 < (x5_2.length : Int) then (spec_l1Cur_opposite.l1 kj66 (wrap64 (1 + t116)) (x5_2.set (x39_2 : Int).toNat (rd y166 (Int.tmod (wrap64 (3 + t133)) 4))) t133 (x5_1.length : Int) (wrap64 (x39_2 + 1)) s0_0 t164 t165) else (none)) else (none)) else (none)) else (none)) = some (r1,r2,r3,r4):=HY H hy166;have Ny166:=AM hy166;clear hy166;obtain ⟨ji89,hji89⟩ : ∃ j_ : Int,(Int.tmod (wrap64 (3 + t133)) 4) = j_:=⟨_,rfl⟩;replace H : (if 0 ≤ (ji89) then (if (ji89) < (y166.length : Int) then (if 0 ≤ x39_2 then (if x39_2 < (x5_2.length : Int) then (spec_l1Cur_opposite.l1 kj66 (wrap64 (1 + t116)) (x5_2.set (x39_2 : Int).toNat (rd y166 (ji89))) t133 (x5_1.length : Int) (wrap64 (x39_2 + 1)) s0_0 t164 t165) else (none)) else (none)) else (none)) else (none)) = some (r1,r2,r3,r4):=by first|(rw [hji89] at H;exact H)|(simp only [hji89] at H ⊢;exact H)
                   (try rw [hji89] at A86);replace H:=IC H;obtain ⟨c90,H⟩:=H;have c90b0:=DT c90;clear c90;replace H:=IC H;obtain ⟨c91,H⟩:=H;have c91b0:=DT c91;clear c91;have c91b0h:=c91b0
                   (try simp only [hl5_1] at c91b0h)
                   (try simp only [hl5_2] at c91b0h);replace H:=IC H;obtain ⟨c92,H⟩:=H;have c92b0:=DT c92;clear c92;replace H:=IC H;obtain ⟨c93,H⟩:=H;have c93b0:=DT c93;clear c93;have c93b0h:=c93b0
                   (try simp only [hl5_1] at c93b0h)
                   (try simp only [hl5_2] at c93b0h);obtain ⟨y170,hy170⟩ : ∃ y_ : List Int,y_ = (x5_2.set (x39_2 : Int).toNat (rd y166 (ji89))):=⟨_,rfl⟩;replace H : (spec_l1Cur_opposite.l1 kj66 (wrap64 (1 + t116)) y170 t133 (x5_1.length : Int) (wrap64 (x39_2 + 1)) s0_0 t164 t165) = some (r1,r2,r3,r4):=HY H hy170;have Ny170:=AM hy170;clear hy170;have H':=AM H;clear H;go_wp2_with (first|(refine GC 40 ?_;refine GM (some 84) Try.func40 (spec_l1Cur_one.calls g s0_0 x1001_2 x1002_2 9 false t164 t165 w0 _ AHI AHB A86.out) ?_;rintro e w95 ⟨rfl,hi,hb,hk⟩;refine ⟨_,rfl,?_⟩;replace HO_5:=AM (Kd.R_mono (Kd.R_keep (IsS59.apart (show IsS59 w0 _ g s0_0 x1001_2 x1002_2 from AHI) (KR HO_5) (by decide)) hk (fun _ h=>h.2)) (fun _ h=>h.1));replace HK:=HX hk;replace HB:=AM hb;replace HI0:=AM hi;try clear hb hk hi)|((with_reducible refine gate_dst (N:=88) rfl ?_);refine Kd.R_lit (Kd.int .i64) _ 3 ?hg (N:=88) ?hd (xs:=([1,2,(-1),(-2)] : List Int)) (inner:=[.int .i64 1,.int .i64 2,.int .i64 (-1),.int .i64 (-2)]) (ok:=fun _=>True) (okp:=fun _=>True) ?hr ?hp (fun _ hk=>hk) trivial (Below.refl _ _) (Nat.le_refl _) (by simp) ?_;(case hd=>rfl);(case hg=>rfl);(case hr=>exact GS);(case hp=>exact (Reps.one (show Kd.M (Kd.int .i64) _ _ _ 1 [.int .i64 1] from rfl) (Reps.one (show Kd.M (Kd.int .i64) _ _ _ 2 [.int .i64 2] from rfl) (Reps.one (show Kd.M (Kd.int .i64) _ _ _ (-1) [.int .i64 (-1)] from rfl) (Reps.one (show Kd.M (Kd.int .i64) _ _ _ (-2) [.int .i64 (-2)] from rfl) (Reps.none _ _))))));intro v167 w96 ho97 hb hg_ hnew_;clear hg_ hnew_;(first|rw [← Ny166.out] at ho97|(simp only [Int.reduceToNat] at ho97;rw [← Ny166.out] at ho97));have HO168:=AM (Kd.R_lower (Kd.R_new' ho97 (Kd.R_lt (KR HO_5))) (keep_size (w:=w) (g:=g) (row:=none) AHK));replace HO_5:=RO HO_5 ho97 hb;replace HK:=AM (KeepBut.trans AHK (KeepBut.of_below hb g none) (.inl rfl));replace HB:=AM (below_step AHB hb);replace HI0:=AM (IsS59.below AHI hb);clear hb ho97;obtain ⟨Ao98,co98,eo98⟩:=Kd.R_slice HO168.out;subst eo98;have p169 : 0 ≤ ((ji89) : Int):=OD AS;have q169 : (ji89) < (y166.length : Int):=OD AS;obtain ⟨ad169,e169,hx169_0⟩:=Kd.at_int (Kd.R_reads' HO168.out).2.2 (ji89) p169 q169;cases e169;replace p169:=ET p169;replace q169:=ET q169;have p94 : 0 ≤ (x39_2 : Int):=OD AS;have q94 : (x39_2 : Int) < ((x5_2.length : Int) : Int):=OD AS;obtain ⟨go94,co94,eo94,gb94,gl94,cl94,HG94⟩:=Kd.R_form HO_5.out (by omega);(first|cases eo94|(injection eo94 with ea_ en_ ec_;(first|subst ea_|(injection ea_ with ea_;subst ea_));subst ec_;clear en_));have GB94:=AM gb94;have GG94:=AM HG94;clear gb94 gl94 HG94;obtain ⟨hx94_0,hf94_0⟩:=Kd.R_celln 0 HO_5.out (x39_2 : Int) p94 q94;replace p94:=ET p94;replace q94:=ET q94;have n_:=AM (Kd.R_mono (ok':=(fun k_=>some k_≠(.slice (some ad169) y166.length co98 : Value).ownBlock)) HO_5.out (fun k_ hk=>hk.2));clear HO_5;have HO_5:=n_;clear n_;obtain ⟨hy99_,hz99_⟩:=Kd.R_celln 0 HO_5.out (x39_2 : Int) (OD AS) (OD AS);have HP99:=Kd.R_putg HO_5.out (x39_2 : Int) (rd y166 (ji89)))|((with_reducible refine gate_store (t:=3) (p:=95) rfl ?_);refine store_event (t:=3) (p:=95) (v:=?vo_w100) (w1:=(w96.setCell ⟨go94,(x39_2 : Int).toNat,none⟩ (.int .i64 (rd y166 (ji89))))) ?hg ?ho ?hn ?hr ?_;(case ho=>rfl);(case hg=>rfl);(case hn=>rfl);(case hr=>exact GS);intro w100 hw;have hg : w96.grownBy w100 (some go94):=(by rw [hw];exact HP99.2);have hp_ : Kd.R (Kd.int .i64) 3 w100 w.heap.size (fun k_=>some k_≠(.slice (some ad169) y166.length co98 : Value).ownBlock) (.slice (some ⟨go94,0,none⟩) x5_2.length co9) y170:=(by rw [hw,Ny170.out];exact HP99.1);clear HP99;replace HI0:=AM (IsS59.grown AHI hg (IsS59.own_ne HI0.out HO_5.out (by decide)));replace HO168:=AM (Kd.R_after (v:=(.slice (some ⟨go94,0,none⟩) x5_2.length co9)) (v1:=(.slice (some ⟨go94,0,none⟩) x5_2.length co9)) (ok:=(fun _=>True)) (KR HO168) hg (.inl rfl));replace HB:=AM ((by rw [hw];exact below_set (HB.out) (Nat.le_trans HL.out GB94.out) : Below w0.heap.size w0 w100));replace HK:=AM (KeepBut.trans AHK (KeepBut.of_grown hg g) (Kd.R_base2 HO_5.out));replace HO_5:=AM hp_;clear hg hw hp_))
                   (try simp only [← hl5_2]);go_roundg kj66
                   case measure=>have:=HK1.out;have:=HK2.out;have:=HJ28.out;have:=HJ47.out;have:=HJ66.out;omega
                   case rel=>exact ⟨(y170),(wrap64 (x39_2 + 1)),(t164),(t165),RF,H',⟨by have:=HK1.out;have:=HK2.out;have:=HJ28.out;have:=HJ47.out;have:=HJ66.out;omega⟩,⟨by (try simp only [hl5_1]);(try simp only [hl5_2]);(with_reducible repeat (first|apply Kd.R_alloc|apply Kd.R_drewN|apply Kd.R_drew));exact Kd.R_mono HO_5.out (fun _ hk=>trivial)⟩,⟨AHI⟩,⟨AHK⟩,⟨AHB⟩⟩
        ·rw [if_neg c27] at H;have c27b0:=DF c27;clear c27;have c27b0h:=c27b0
         (try simp only [hl5_1] at c27b0h)
         (try simp only [hl5_2] at c27b0h)
         (first|rw [c27b0]|(simp only [i64_w,i32_w];rw [c27b0])|skip);have H':=AM H;clear H;go_wp2
         (try simp only [← hl5_2]);go_meet
         case rel=>exact ⟨_,(x5_2),(x1001_2),(x1002_2),H',⟨by have:=HK1.out;have:=HK2.out;first|omega|exact Nat.le_refl _⟩,⟨by (try simp only [hl5_1]);(try simp only [hl5_2]);(with_reducible repeat (first|apply Kd.R_alloc|apply Kd.R_drewN|apply Kd.R_drew));exact HO_5.out⟩,⟨AHI⟩,⟨AHK⟩,⟨AHB⟩⟩
     ·replace c24:=NF c24;subst c24;replace H:=IN H;have H':=AM H;clear H;go_wp2;go_meet
      case rel=>exact ⟨_,(x5_1),(t131),(t132),H',⟨by have:=HK1.out;first|omega|exact Nat.le_refl _⟩,⟨by (try simp only [hl5_1]);(with_reducible repeat (first|apply Kd.R_alloc|apply Kd.R_drewN|apply Kd.R_drew));exact HO_5.out⟩,⟨AHI⟩,⟨AHK⟩,⟨AHB⟩⟩
    case rest =>
     clear HC22;try clear c1
     try clear p1
     try clear q1
     try clear hx1
     try clear hf1
     try clear c2
     try clear p2
     try clear c3
     try clear c4
     try clear c4b0
     try clear c4b1
     try clear p4
     try clear q4
     try clear hx4
     try clear hf4
     try clear c5
     try clear c5b0
     try clear c5b1
     try clear c6
     try clear p6
     try clear q6
     try clear hx6
     try clear hf6
     try clear c7
     try clear p7
     try clear q7
     try clear hx7
     try clear hf7
     try clear c8
     try clear c9
     try clear p9
     try clear q9
     try clear hx9
     try clear hf9
     try clear c10
     try clear c10b0
     try clear c12
     try clear c12b0
     try clear c13
     try clear c13b0
     try clear p14
     try clear q14
     try clear hx14
     try clear hf14
     try clear p15
     try clear q15
     try clear hx15
     try clear p16
     try clear q16
     try clear hx16
     try clear c24
     try clear c27
     try clear c27b0
     try clear c30
     try clear c30b0
     try clear c31
     try clear c31b0
     try clear c32
     try clear c34
     try clear c37
     try clear c37b0
     try clear c38
     try clear c38b0
     try clear c39
     try clear c39b0
     try clear c40
     try clear c40b0
     try clear c41
     try clear p41
     try clear q41
     try clear hx41
     try clear hf41
     try clear c49
     try clear c49b0
     try clear c51
     try clear c53
     try clear c56
     try clear c56b0
     try clear c57
     try clear c57b0
     try clear c58
     try clear c58b0
     try clear c59
     try clear c59b0
     try clear p60
     try clear q60
     try clear hx60
     try clear hf60
     try clear p64
     try clear c68
     try clear c68b0
     try clear c69
     try clear c69b0
     try clear c70
     try clear c72
     try clear c75
     try clear c75b0
     try clear c76
     try clear c76b0
     try clear c77
     try clear c77b0
     try clear c78
     try clear c78b0
     try clear p79
     try clear q79
     try clear hx79
     try clear hf79
     try clear c87
     try clear c90
     try clear c90b0
     try clear c91
     try clear c91b0
     try clear c92
     try clear c92b0
     try clear c93
     try clear c93b0
     try clear p94
     try clear q94
     try clear hx94
     try clear hf94
     try clear hx144_0
     try clear hx14_0
     try clear hx153_0
     try clear hx161_0
     try clear hx169_0
     try clear hx41_0
     try clear hx60_0
     try clear hx79_0
     try clear hx94_0
     try clear p1
     try clear p14
     try clear p144
     try clear p15
     try clear p153
     try clear p161
     try clear p169
     try clear p2
     try clear p4
     try clear p41
     try clear p6
     try clear p60
     try clear p64
     try clear p79
     try clear p94
     try clear q1
     try clear q14
     try clear q144
     try clear q15
     try clear q153
     try clear q161
     try clear q169
     try clear q4
     try clear q41
     try clear q6
     try clear q60
     try clear q79
     try clear q94
     obtain ⟨kq,x5_21,x1001_21,x1002_21,HA,HJ21,HO_5,HI0,HK,HB⟩:=hcut;have hl5_21:=(Kd.R_reads' HO_5.out).1;rw [hl5_21] at HO_5
     (try simp only [hl5_21]);cases kq with
     | zero=>exact absurd HA.out (by simp [spec_l1Cur_opposite.j5])
     | succ kj21 =>
      have H:=HA.out;clear HA;simp only [spec_l1Cur_opposite.j5] at H;have H':=AM H;clear H;go_wp2;go_loopg [99] kj21 (fun kq v99 w'=>∃ (x5_3 : List Int) (x99_3 : Int),v99 = .int .i64 x99_3∧Aside0 (spec_l1Cur_opposite.l2 kq (wrap64 (1 + t116)) x5_3 (x5_21.length : Int) x99_3 s0_0 x1001_21 x1002_21 = some (r1,r2,r3,r4))∧Aside0 (kq ≤ kj21)∧Aside0 (Kd.R (Kd.int .i64) 3 w' w.heap.size (fun _=>True) (.slice Ao9 x5_21.length co9) x5_3)∧Aside0 (IsS59 w0 w' g s0_0 x1001_21 x1002_21)∧Aside0 (KeepBut w w' g none)∧Aside0 (Below w0.heap.size w0 w'))
      case atStart=>exact ⟨(x5_21),(0),RF,H',⟨Nat.le_refl _⟩,⟨by (try simp only [hl5_1]);(try simp only [hl5_21]);(with_reducible repeat (first|apply Kd.R_alloc|apply Kd.R_drewN|apply Kd.R_drew));exact HO_5.out⟩,⟨AHI⟩,⟨AHK⟩,⟨AHB⟩⟩
      case round =>
       clear H';try clear c1
       try clear p1
       try clear q1
       try clear hx1
       try clear hf1
       try clear c2
       try clear p2
       try clear c3
       try clear c4
       try clear c4b0
       try clear c4b1
       try clear p4
       try clear q4
       try clear hx4
       try clear hf4
       try clear c5
       try clear c5b0
       try clear c5b1
       try clear c6
       try clear p6
       try clear q6
       try clear hx6
       try clear hf6
       try clear c7
       try clear p7
       try clear q7
       try clear hx7
       try clear hf7
       try clear c8
       try clear c9
       try clear p9
       try clear q9
       try clear hx9
       try clear hf9
       try clear c10
       try clear c10b0
       try clear c12
       try clear c12b0
       try clear c13
       try clear c13b0
       try clear p14
       try clear q14
       try clear hx14
       try clear hf14
       try clear p15
       try clear q15
       try clear hx15
       try clear p16
       try clear q16
       try clear hx16
       try clear c24
       try clear c27
       try clear c27b0
       try clear c30
       try clear c30b0
       try clear c31
       try clear c31b0
       try clear c32
       try clear c34
       try clear c37
       try clear c37b0
       try clear c38
       try clear c38b0
       try clear c39
       try clear c39b0
       try clear c40
       try clear c40b0
       try clear c41
       try clear p41
       try clear q41
       try clear hx41
       try clear hf41
       try clear c49
       try clear c49b0
       try clear c51
       try clear c53
       try clear c56
       try clear c56b0
       try clear c57
       try clear c57b0
       try clear c58
       try clear c58b0
       try clear c59
       try clear c59b0
       try clear p60
       try clear q60
       try clear hx60
       try clear hf60
       try clear p64
       try clear c68
       try clear c68b0
       try clear c69
       try clear c69b0
       try clear c70
       try clear c72
       try clear c75
       try clear c75b0
       try clear c76
       try clear c76b0
       try clear c77
       try clear c77b0
       try clear c78
       try clear c78b0
       try clear p79
       try clear q79
       try clear hx79
       try clear hf79
       try clear c87
       try clear c90
       try clear c90b0
       try clear c91
       try clear c91b0
       try clear c92
       try clear c92b0
       try clear c93
       try clear c93b0
       try clear p94
       try clear q94
       try clear hx94
       try clear hf94
       try clear hx144_0
       try clear hx14_0
       try clear hx153_0
       try clear hx161_0
       try clear hx169_0
       try clear hx41_0
       try clear hx60_0
       try clear hx79_0
       try clear hx94_0
       try clear p1
       try clear p14
       try clear p144
       try clear p15
       try clear p153
       try clear p16
       try clear p161
       try clear p169
       try clear p2
       try clear p4
       try clear p41
       try clear p6
       try clear p60
       try clear p64
       try clear p7
       try clear p79
       try clear p9
       try clear p94
       try clear q1
       try clear q14
       try clear q144
       try clear q15
       try clear q153
       try clear q16
       try clear q161
       try clear q169
       try clear q4
       try clear q41
       try clear q6
       try clear q60
       try clear q7
       try clear q79
       try clear q9
       try clear q94
       obtain ⟨x5_3,x99_3,rfl,HA,HK3,HO_5,HI0,HK,HB⟩:=hrel;have hl5_3:=(Kd.R_reads' HO_5.out).1;rw [hl5_3] at HO_5
       (try simp only [hl5_3]);cases gk with
       | zero=>exact absurd HA.out (by simp [spec_l1Cur_opposite.l2])
       | succ k3 =>
        have H:=HA.out;clear HA;simp only [spec_l1Cur_opposite.l2] at H;by_cases c101 : x99_3 < (x5_21.length : Int)
        ·rw [if_pos c101] at H;have c101b0:=DT c101;clear c101;have c101b0h:=c101b0
         (try simp only [hl5_1] at c101b0h)
         (try simp only [hl5_2] at c101b0h)
         (try simp only [hl5_21] at c101b0h)
         (try simp only [hl5_3] at c101b0h);replace H:=EA H;obtain ⟨⟨t171,t172⟩,A102,H⟩:=H;try dsimp only at H
         replace H:=EA H;obtain ⟨t173,A103,H⟩:=H;by_cases c104 : t173 = (wrap64 (1 + t116))
         ·rw [if_pos c104] at H;have c104b0:=QT c104;have c104b1:=bne_eq_false_iff_eq.mpr c104;clear c104;replace H:=IC H;obtain ⟨c105,H⟩:=H;have c105b0:=DT c105;clear c105;replace H:=IC H;obtain ⟨c106,H⟩:=H;have c106b0:=DT c106;clear c106;have c106b0h:=c106b0
          (try simp only [hl5_1] at c106b0h)
          (try simp only [hl5_2] at c106b0h)
          (try simp only [hl5_21] at c106b0h)
          (try simp only [hl5_3] at c106b0h);obtain ⟨ji107,hji107⟩ : ∃ j_ : Int,(wrap64 ((wrap64 ((x5_3.length : Int) - 1)) - x99_3)) = j_:=⟨_,rfl⟩;replace H : (if 0 ≤ (ji107) then (if (ji107) < (x5_3.length : Int) then (spec_l1Cur_opposite.l2 k3 (wrap64 (1 + t116)) (x5_3.set ((ji107) : Int).toNat (wrap64 (-(rd x5_3 x99_3)))) (x5_21.length : Int) (wrap64 (x99_3 + 1)) s0_0 x1001_21 x1002_21) else (none)) else (none)) = some (r1,r2,r3,r4):=by first|(rw [hji107] at H;exact H)|(simp only [hji107] at H ⊢;exact H)
          (try rw [hji107] at A102)
          (try rw [hji107] at A103);have hji107w : (IntKind.i64.wrap ((wrap64 ((x5_3.length : Int) - 1)) - x99_3)) = ji107:=(i64_w _).trans hji107;replace H:=IC H;obtain ⟨c108,H⟩:=H;have c108b0:=DT c108;clear c108;replace H:=IC H;obtain ⟨c109,H⟩:=H;have c109b0:=DT c109;clear c109;have c109b0h:=c109b0
          (try simp only [hl5_1] at c109b0h)
          (try simp only [hl5_2] at c109b0h)
          (try simp only [hl5_21] at c109b0h)
          (try simp only [hl5_3] at c109b0h);obtain ⟨y175,hy175⟩ : ∃ y_ : List Int,y_ = (x5_3.set ((ji107) : Int).toNat (wrap64 (-(rd x5_3 x99_3)))):=⟨_,rfl⟩;replace H : (spec_l1Cur_opposite.l2 k3 (wrap64 (1 + t116)) y175 (x5_21.length : Int) (wrap64 (x99_3 + 1)) s0_0 x1001_21 x1002_21) = some (r1,r2,r3,r4):=HY H hy175;have Ny175:=AM hy175;clear hy175;have H':=AM H;clear H;go_wp2_with (first|(refine GC 68 ?_;refine GM (some 105) Try.func68 (spec_opAt.calls (wrap64 (1 + t116)) x99_3 t171 t172 _ A102.out) ?_;rintro e w' ⟨rfl,⟨nd,rfl⟩⟩;refine ⟨_,rfl,?_⟩;(try (rw [drewN_self wr];generalize hq_ : World.drewN wr _ = wr;have n0_ : Aside0 (Kd.R (Kd.int .i64) 3 wr w.heap.size (fun _=>True) (.slice Ao9 x5_3.length co9) x5_3):=⟨by rw [← hq_];exact (KR HO_5)⟩;have n1_ : Aside0 (IsS59 w0 wr g s0_0 x1001_21 x1002_21):=⟨by rw [← hq_];exact AHI⟩;have n2_ : Aside0 (KeepBut w wr g none):=⟨by rw [← hq_];exact AHK⟩;have n3_ : Aside0 (Below w0.heap.size w0 wr):=⟨by rw [← hq_];exact AHB⟩;clear HO_5 HI0 HK HB hq_;have HO_5:=n0_;have HI0:=n1_;have HK:=n2_;have HB:=n3_;clear n0_ n1_ n2_ n3_)))|(refine GC 70 ?_;refine GM (some 109) Try.func70 (spec_l1Abs.calls t171 t173 _ A103.out) ?_;rintro e w' ⟨rfl,⟨nd,rfl⟩⟩;refine ⟨_,rfl,?_⟩;(try (rw [drewN_self wr];generalize hq_ : World.drewN wr _ = wr;have n0_ : Aside0 (Kd.R (Kd.int .i64) 3 wr w.heap.size (fun _=>True) (.slice Ao9 x5_3.length co9) x5_3):=⟨by rw [← hq_];exact (KR HO_5)⟩;have n1_ : Aside0 (IsS59 w0 wr g s0_0 x1001_21 x1002_21):=⟨by rw [← hq_];exact AHI⟩;have n2_ : Aside0 (KeepBut w wr g none):=⟨by rw [← hq_];exact AHK⟩;have n3_ : Aside0 (Below w0.heap.size w0 wr):=⟨by rw [← hq_];exact AHB⟩;clear HO_5 HI0 HK HB hq_;have HO_5:=n0_;have HI0:=n1_;have HK:=n2_;have HB:=n3_;clear n0_ n1_ n2_ n3_));have p174 : 0 ≤ (x99_3 : Int):=OD AS;have q174 : x99_3 < (x5_3.length : Int):=OD AS;obtain ⟨ad174,e174,hx174_0⟩:=Kd.at_int (Kd.R_reads' HO_5.out).2.2 x99_3 p174 q174;cases e174;replace p174:=ET p174;replace q174:=ET q174;have p110 : 0 ≤ ((ji107) : Int):=OD AS;have q110 : ((ji107) : Int) < ((x5_3.length : Int) : Int):=OD AS;obtain ⟨go110,co110,eo110,gb110,gl110,cl110,HG110⟩:=Kd.R_form HO_5.out (by omega);(first|cases eo110|(injection eo110 with ea_ en_ ec_;(first|subst ea_|(injection ea_ with ea_;subst ea_));subst ec_;clear en_));have GB110:=AM gb110;have GG110:=AM HG110;clear gb110 gl110 HG110;(first|simp only [add_plain] at hx174_0|skip);obtain ⟨hx110_0,hf110_0⟩:=Kd.R_celln 0 HO_5.out ((ji107) : Int) p110 q110;replace p110:=ET p110;replace q110:=ET q110;obtain ⟨hy111_,hz111_⟩:=Kd.R_celln 0 HO_5.out ((ji107) : Int) (OD AS) (OD AS);have HP111:=Kd.R_putg HO_5.out ((ji107) : Int) (wrap64 (-(rd x5_3 x99_3))))|((with_reducible refine gate_store (t:=3) (p:=129) rfl ?_);refine store_event (t:=3) (p:=129) (v:=?vo_w112) (w1:=(wr.setCell ⟨go110,((ji107) : Int).toNat,none⟩ (.int .i64 (wrap64 (-(rd x5_3 x99_3)))))) ?hg ?ho ?hn ?hr ?_;(case ho=>rfl);(case hg=>rfl);(case hn=>rfl);(case hr=>exact GS);intro w112 hw;have hg : wr.grownBy w112 (some go110):=(by rw [hw];exact HP111.2);have hp_ : Kd.R (Kd.int .i64) 3 w112 w.heap.size (fun _=>True) (.slice (some ⟨go110,0,none⟩) x5_3.length co9) y175:=(by rw [hw,Ny175.out];exact HP111.1);clear HP111;replace HI0:=AM (IsS59.grown AHI hg (IsS59.own_ne HI0.out HO_5.out (by decide)));replace HB:=AM ((by rw [hw];exact below_set (HB.out) (Nat.le_trans HL.out GB110.out) : Below w0.heap.size w0 w112));replace HK:=AM (KeepBut.trans AHK (KeepBut.of_grown hg g) (Kd.R_base2 HO_5.out));replace HO_5:=AM hp_;clear hg hw hp_))
          (try simp only [← hl5_3]);go_roundg k3
          case measure=>have:=HK1.out;have:=HJ21.out;have:=HK3.out;omega
          case rel=>exact ⟨(y175),(wrap64 (x99_3 + 1)),RF,H',⟨by have:=HK1.out;have:=HJ21.out;have:=HK3.out;omega⟩,⟨by (try simp only [hl5_1]);(try simp only [hl5_21]);(try simp only [hl5_3]);(with_reducible repeat (first|apply Kd.R_alloc|apply Kd.R_drewN|apply Kd.R_drew));exact HO_5.out⟩,⟨AHI⟩,⟨AHK⟩,⟨AHB⟩⟩
         ·rw [if_neg c104] at H;have c104b0:=beq_eq_false_iff_ne.mpr c104;have c104b1:=bne_iff_ne.mpr c104;replace H:=EA H;obtain ⟨t176,A113,H⟩:=H;by_cases c114 : t176 = (wrap64 (1 + t116))
          ·rw [if_pos c114] at H;have c114b0:=QT c114;have c114b1:=bne_eq_false_iff_eq.mpr c114;clear c114;replace H:=IC H;obtain ⟨c115,H⟩:=H;have c115b0:=DT c115;clear c115;replace H:=IC H;obtain ⟨c116,H⟩:=H;have c116b0:=DT c116;clear c116;have c116b0h:=c116b0
           (try simp only [hl5_1] at c116b0h)
           (try simp only [hl5_2] at c116b0h)
           (try simp only [hl5_21] at c116b0h)
           (try simp only [hl5_3] at c116b0h);obtain ⟨ji117,hji117⟩ : ∃ j_ : Int,(wrap64 ((wrap64 ((x5_3.length : Int) - 1)) - x99_3)) = j_:=⟨_,rfl⟩;replace H : (if 0 ≤ (ji117) then (if (ji117) < (x5_3.length : Int) then (spec_l1Cur_opposite.l2 k3 (wrap64 (1 + t116)) (x5_3.set ((ji117) : Int).toNat (wrap64 (-(rd x5_3 x99_3)))) (x5_21.length : Int) (wrap64 (x99_3 + 1)) s0_0 x1001_21 x1002_21) else (none)) else (none)) = some (r1,r2,r3,r4):=by first|(rw [hji117] at H;exact H)|(simp only [hji117] at H ⊢;exact H)
           (try rw [hji117] at A102)
           (try rw [hji117] at A103)
           (try rw [hji117] at A113);have hji117w : (IntKind.i64.wrap ((wrap64 ((x5_3.length : Int) - 1)) - x99_3)) = ji117:=(i64_w _).trans hji117;replace H:=IC H;obtain ⟨c118,H⟩:=H;have c118b0:=DT c118;clear c118;replace H:=IC H;obtain ⟨c119,H⟩:=H;have c119b0:=DT c119;clear c119;have c119b0h:=c119b0
           (try simp only [hl5_1] at c119b0h)
           (try simp only [hl5_2] at c119b0h)
           (try simp only [hl5_21] at c119b0h)
           (try simp only [hl5_3] at c119b0h);obtain ⟨y178,hy178⟩ : ∃ y_ : List Int,y_ = (x5_3.set ((ji117) : Int).toNat (wrap64 (-(rd x5_3 x99_3)))):=⟨_,rfl⟩;replace H : (spec_l1Cur_opposite.l2 k3 (wrap64 (1 + t116)) y178 (x5_21.length : Int) (wrap64 (x99_3 + 1)) s0_0 x1001_21 x1002_21) = some (r1,r2,r3,r4):=HY H hy178;have Ny178:=AM hy178;clear hy178;have H':=AM H;clear H;go_wp2_with (first|(refine GC 68 ?_;refine GM (some 105) Try.func68 (spec_opAt.calls (wrap64 (1 + t116)) x99_3 t171 t172 _ A102.out) ?_;rintro e w' ⟨rfl,⟨nd,rfl⟩⟩;refine ⟨_,rfl,?_⟩;(try (rw [drewN_self wr];generalize hq_ : World.drewN wr _ = wr;have n0_ : Aside0 (Kd.R (Kd.int .i64) 3 wr w.heap.size (fun _=>True) (.slice Ao9 x5_3.length co9) x5_3):=⟨by rw [← hq_];exact (KR HO_5)⟩;have n1_ : Aside0 (IsS59 w0 wr g s0_0 x1001_21 x1002_21):=⟨by rw [← hq_];exact AHI⟩;have n2_ : Aside0 (KeepBut w wr g none):=⟨by rw [← hq_];exact AHK⟩;have n3_ : Aside0 (Below w0.heap.size w0 wr):=⟨by rw [← hq_];exact AHB⟩;clear HO_5 HI0 HK HB hq_;have HO_5:=n0_;have HI0:=n1_;have HK:=n2_;have HB:=n3_;clear n0_ n1_ n2_ n3_)))|(refine GC 70 ?_;refine GM (some 109) Try.func70 (spec_l1Abs.calls t171 t173 _ A103.out) ?_;rintro e w' ⟨rfl,⟨nd,rfl⟩⟩;refine ⟨_,rfl,?_⟩;(try (rw [drewN_self wr];generalize hq_ : World.drewN wr _ = wr;have n0_ : Aside0 (Kd.R (Kd.int .i64) 3 wr w.heap.size (fun _=>True) (.slice Ao9 x5_3.length co9) x5_3):=⟨by rw [← hq_];exact (KR HO_5)⟩;have n1_ : Aside0 (IsS59 w0 wr g s0_0 x1001_21 x1002_21):=⟨by rw [← hq_];exact AHI⟩;have n2_ : Aside0 (KeepBut w wr g none):=⟨by rw [← hq_];exact AHK⟩;have n3_ : Aside0 (Below w0.heap.size w0 wr):=⟨by rw [← hq_];exact AHB⟩;clear HO_5 HI0 HK HB hq_;have HO_5:=n0_;have HI0:=n1_;have HK:=n2_;have HB:=n3_;clear n0_ n1_ n2_ n3_)))|(go_at_call 70;(with_reducible refine (spec_l1Abs.calls t172 t176 _ A113.out).mono ?_);rintro e w' ⟨rfl,⟨nd,rfl⟩⟩;(try (rw [drewN_self wr];generalize hq_ : World.drewN wr _ = wr;have n0_ : Aside0 (Kd.R (Kd.int .i64) 3 wr w.heap.size (fun _=>True) (.slice Ao9 x5_3.length co9) x5_3):=⟨by rw [← hq_];exact (KR HO_5)⟩;have n1_ : Aside0 (IsS59 w0 wr g s0_0 x1001_21 x1002_21):=⟨by rw [← hq_];exact AHI⟩;have n2_ : Aside0 (KeepBut w wr g none):=⟨by rw [← hq_];exact AHK⟩;have n3_ : Aside0 (Below w0.heap.size w0 wr):=⟨by rw [← hq_];exact AHB⟩;clear HO_5 HI0 HK HB hq_;have HO_5:=n0_;have HI0:=n1_;have HK:=n2_;have HB:=n3_;clear n0_ n1_ n2_ n3_));have p177 : 0 ≤ (x99_3 : Int):=OD AS;have q177 : x99_3 < (x5_3.length : Int):=OD AS;obtain ⟨ad177,e177,hx177_0⟩:=Kd.at_int (Kd.R_reads' HO_5.out).2.2 x99_3 p177 q177;cases e177;replace p177:=ET p177;replace q177:=ET q177;have p120 : 0 ≤ ((ji117) : Int):=OD AS;have q120 : ((ji117) : Int) < ((x5_3.length : Int) : Int):=OD AS;obtain ⟨go120,co120,eo120,gb120,gl120,cl120,HG120⟩:=Kd.R_form HO_5.out (by omega);(first|cases eo120|(injection eo120 with ea_ en_ ec_;(first|subst ea_|(injection ea_ with ea_;subst ea_));subst ec_;clear en_));have GB120:=AM gb120;have GG120:=AM HG120;clear gb120 gl120 HG120;(first|simp only [add_plain] at hx177_0|skip);obtain ⟨hx120_0,hf120_0⟩:=Kd.R_celln 0 HO_5.out ((ji117) : Int) p120 q120;replace p120:=ET p120;replace q120:=ET q120;obtain ⟨hy121_,hz121_⟩:=Kd.R_celln 0 HO_5.out ((ji117) : Int) (OD AS) (OD AS);have HP121:=Kd.R_putg HO_5.out ((ji117) : Int) (wrap64 (-(rd x5_3 x99_3))))|((with_reducible refine gate_store (t:=3) (p:=129) rfl ?_);refine store_event (t:=3) (p:=129) (v:=?vo_w122) (w1:=(wr.setCell ⟨go120,((ji117) : Int).toNat,none⟩ (.int .i64 (wrap64 (-(rd x5_3 x99_3)))))) ?hg ?ho ?hn ?hr ?_;(case ho=>rfl);(case hg=>rfl);(case hn=>rfl);(case hr=>exact GS);intro w122 hw;have hg : wr.grownBy w122 (some go120):=(by rw [hw];exact HP121.2);have hp_ : Kd.R (Kd.int .i64) 3 w122 w.heap.size (fun _=>True) (.slice (some ⟨go120,0,none⟩) x5_3.length co9) y178:=(by rw [hw,Ny178.out];exact HP121.1);clear HP121;replace HI0:=AM (IsS59.grown AHI hg (IsS59.own_ne HI0.out HO_5.out (by decide)));replace HB:=AM ((by rw [hw];exact below_set (HB.out) (Nat.le_trans HL.out GB120.out) : Below w0.heap.size w0 w122));replace HK:=AM (KeepBut.trans AHK (KeepBut.of_grown hg g) (Kd.R_base2 HO_5.out));replace HO_5:=AM hp_;clear hg hw hp_))
           (try simp only [← hl5_3]);go_roundg k3
           case measure=>have:=HK1.out;have:=HJ21.out;have:=HK3.out;omega
           case rel=>exact ⟨(y178),(wrap64 (x99_3 + 1)),RF,H',⟨by have:=HK1.out;have:=HJ21.out;have:=HK3.out;omega⟩,⟨by (try simp only [hl5_1]);(try simp only [hl5_21]);(try simp only [hl5_3]);(with_reducible repeat (first|apply Kd.R_alloc|apply Kd.R_drewN|apply Kd.R_drew));exact HO_5.out⟩,⟨AHI⟩,⟨AHK⟩,⟨AHB⟩⟩
          ·rw [if_neg c114] at H;have c114b0:=beq_eq_false_iff_ne.mpr c114;have c114b1:=bne_iff_ne.mpr c114;have H':=AM H;clear H;go_wp2_with (first|(refine GC 68 ?_;refine GM (some 105) Try.func68 (spec_opAt.calls (wrap64 (1 + t116)) x99_3 t171 t172 _ A102.out) ?_;rintro e w' ⟨rfl,⟨nd,rfl⟩⟩;refine ⟨_,rfl,?_⟩)|(refine GC 70 ?_;refine GM (some 109) Try.func70 (spec_l1Abs.calls t171 t173 _ A103.out) ?_;rintro e w' ⟨rfl,⟨nd,rfl⟩⟩;refine ⟨_,rfl,?_⟩)|(go_at_call 70;(with_reducible refine (spec_l1Abs.calls t172 t176 _ A113.out).mono ?_);rintro e w' ⟨rfl,⟨nd,rfl⟩⟩))
           (try simp only [← hl5_3]);go_roundg k3
           case measure=>have:=HK1.out;have:=HJ21.out;have:=HK3.out;omega
           case rel=>exact ⟨(x5_3),(wrap64 (x99_3 + 1)),RF,H',⟨by have:=HK1.out;have:=HJ21.out;have:=HK3.out;omega⟩,⟨by (try simp only [hl5_1]);(try simp only [hl5_21]);(try simp only [hl5_3]);(with_reducible repeat (first|apply Kd.R_alloc|apply Kd.R_drewN|apply Kd.R_drew));exact HO_5.out⟩,⟨AHI⟩,⟨AHK⟩,⟨AHB⟩⟩
        ·rw [if_neg c101] at H;have c101b0:=DF c101;clear c101;have c101b0h:=c101b0
         (try simp only [hl5_1] at c101b0h)
         (try simp only [hl5_2] at c101b0h)
         (try simp only [hl5_21] at c101b0h)
         (try simp only [hl5_3] at c101b0h);replace H:=EA H;obtain ⟨⟨t179,t180,t181⟩,A123,H⟩:=H;try dsimp only at H
         by_cases c124 : t179 = 0
         ·rw [if_pos c124] at H;have c124b0:=QT c124;have c124b1:=bne_eq_false_iff_eq.mpr c124;clear c124;replace H:=EA H;obtain ⟨⟨t182,t183,t184⟩,A125,H⟩:=H;try dsimp only at H
          obtain ⟨y185,hy185⟩ : ∃ y_ : List Int,y_ = (([0,3,(-3),1,4611686018427387904] : List Int)):=⟨_,rfl⟩;replace H : ((spec_l1Cur_among.f s0_0 t183 t184 y185).bind fun bt188=>(if 0 ≤ t182 then (if t182 < (x5_3.length : Int) then (some ((wrap64 (1 + t116)),(x5_3.set (t182 : Int).toNat bt188.1),bt188.2.1,bt188.2.2)) else (none)) else (none))) = some (r1,r2,r3,r4):=HY H hy185;have Ny185:=AM hy185;clear hy185;replace H:=EA H;obtain ⟨⟨t188,t189,t190⟩,A126,H⟩:=H;try dsimp only at H
          replace H:=IC H;obtain ⟨c127,H⟩:=H;have c127b0:=DT c127;clear c127;replace H:=IC H;obtain ⟨c128,H⟩:=H;have c128b0:=DT c128;clear c128;have c128b0h:=c128b0
          (try simp only [hl5_1] at c128b0h)
          (try simp only [hl5_2] at c128b0h)
          (try simp only [hl5_21] at c128b0h)
          (try simp only [hl5_3] at c128b0h);obtain ⟨y191,hy191⟩ : ∃ y_ : List Int,y_ = (x5_3.set (t182 : Int).toNat t188):=⟨_,rfl⟩;replace H : (some ((wrap64 (1 + t116)),y191,t189,t190)) = some (r1,r2,r3,r4):=HY H hy191;have Ny191:=AM hy191;clear hy191;simp only [Option.some.injEq,Prod.mk.injEq] at H;obtain ⟨rfl,rfl,rfl,rfl⟩:=H;go_wp2_with (first|(refine GC 41 ?_;refine GM (some 132) Try.func41 (spec_l1Cur_pick.calls g s0_0 x1001_21 x1002_21 12 t179 t180 t181 w0 _ ?side1 ?side2 A123.out) ?_;(case side1=>exact AHI);(case side2=>exact AHB);rintro e w130 ⟨rfl,hi,hb,hk⟩;refine ⟨_,rfl,?_⟩;replace HO_5:=AM (Kd.R_mono (Kd.R_keep (IsS59.apart (show IsS59 w0 _ g s0_0 x1001_21 x1002_21 from AHI) (KR HO_5) (by decide)) hk (fun _ h=>h.2)) (fun _ h=>h.1));replace HK:=HX hk;replace HB:=AM hb;replace HI0:=AM hi;try clear hb hk hi)|(refine GC 41 ?_;refine GM (some 139) Try.func41 (spec_l1Cur_pick.calls g s0_0 t180 t181 (x5_3.length : Int) t182 t183 t184 w0 _ ?side1 ?side2 A125.out) ?_;(case side1=>exact AHI);(case side2=>exact AHB);rintro e w131 ⟨rfl,hi,hb,hk⟩;refine ⟨_,rfl,?_⟩;replace HO_5:=AM (Kd.R_mono (Kd.R_keep (IsS59.apart (show IsS59 w0 _ g s0_0 t180 t181 from AHI) (KR HO_5) (by decide)) hk (fun _ h=>h.2)) (fun _ h=>h.1));replace HK:=HX hk;replace HB:=AM hb;replace HI0:=AM hi;try clear hb hk hi)|((with_reducible refine gate_dst (N:=141) rfl ?_);refine Kd.R_lit (Kd.int .i64) _ 3 ?hg (N:=141) ?hd (xs:=([0,3,(-3),1,4611686018427387904] : List Int)) (inner:=[.int .i64 0,.int .i64 3,.int .i64 (-3),.int .i64 1,.int .i64 4611686018427387904]) (ok:=fun _=>True) (okp:=fun _=>True) ?hr ?hp (fun _ hk=>hk) trivial (Below.refl _ _) (Nat.le_refl _) (by simp) ?_;(case hd=>rfl);(case hg=>rfl);(case hr=>exact GS);(case hp=>exact (Reps.one (show Kd.M (Kd.int .i64) _ _ _ 0 [.int .i64 0] from rfl) (Reps.one (show Kd.M (Kd.int .i64) _ _ _ 3 [.int .i64 3] from rfl) (Reps.one (show Kd.M (Kd.int .i64) _ _ _ (-3) [.int .i64 (-3)] from rfl) (Reps.one (show Kd.M (Kd.int .i64) _ _ _ 1 [.int .i64 1] from rfl) (Reps.one (show Kd.M (Kd.int .i64) _ _ _ 4611686018427387904 [.int .i64 4611686018427387904] from rfl) (Reps.none _ _)))))));intro v186 w132 ho133 hb hg_ hnew_;clear hg_ hnew_;(first|rw [← Ny185.out] at ho133|(simp only [Int.reduceToNat] at ho133;rw [← Ny185.out] at ho133));have HO187:=AM (Kd.R_lower (Kd.R_new' ho133 (Kd.R_lt (KR HO_5))) (keep_size (w:=w) (g:=g) (row:=none) AHK));replace HO_5:=RO HO_5 ho133 hb;replace HK:=AM (KeepBut.trans AHK (KeepBut.of_below hb g none) (.inl rfl));replace HB:=AM (below_step AHB hb);replace HI0:=AM (IsS59.below AHI hb);clear hb ho133;obtain ⟨Ao134,co134,eo134⟩:=Kd.R_slice HO187.out;subst eo134)|(refine GC 69 ?_;refine GM (some 142) Try.func69 (spec_l1Cur_among.calls g s0_0 t183 t184 _ _ y185 t188 t189 t190 w0 _ AHI AHB (CW (Kd.R_reads' HO187.out).2.2) ((Kd.R_reads' HO187.out).2.1) (far_slice (IsS59.own_ne HI0.out HO187.out (by decide))) A126.out) ?_;rintro e w135 ⟨rfl,hi,hb,hk⟩;refine ⟨_,rfl,?_⟩;replace HO_5:=AM (Kd.R_mono (Kd.R_keep (IsS59.apart (show IsS59 w0 _ g s0_0 t183 t184 from AHI) (KR HO_5) (by decide)) hk (fun _ h=>h.2)) (fun _ h=>h.1));replace HO187:=AM (Kd.R_mono (Kd.R_keep (IsS59.apart (show IsS59 w0 _ g s0_0 t183 t184 from AHI) (KR HO187) (by decide)) hk (fun _ h=>h.2)) (fun _ h=>h.1));replace HK:=HX hk;replace HB:=AM hb;replace HI0:=AM hi;try clear hb hk hi;have p129 : 0 ≤ (t182 : Int):=OD AS;have q129 : (t182 : Int) < ((x5_3.length : Int) : Int):=OD AS;obtain ⟨go129,co129,eo129,gb129,gl129,cl129,HG129⟩:=Kd.R_form HO_5.out (by omega);(first|cases eo129|(injection eo129 with ea_ en_ ec_;(first|subst ea_|(injection ea_ with ea_;subst ea_));subst ec_;clear en_));have GB129:=AM gb129;have GG129:=AM HG129;clear gb129 gl129 HG129;obtain ⟨hx129_0,hf129_0⟩:=Kd.R_celln 0 HO_5.out (t182 : Int) p129 q129;replace p129:=ET p129;replace q129:=ET q129;have n_:=AM (Kd.R_mono (ok':=(fun k_=>some k_≠(.slice Ao134 y185.length co134 : Value).ownBlock)) HO_5.out (fun k_ hk=>hk.2));clear HO_5;have HO_5:=n_;clear n_;obtain ⟨hy136_,hz136_⟩:=Kd.R_celln 0 HO_5.out (t182 : Int) (OD AS) (OD AS);have HP136:=Kd.R_putg HO_5.out (t182 : Int) t188)|((with_reducible refine gate_store (t:=3) (p:=143) rfl ?_);refine store_event (t:=3) (p:=143) (v:=?vo_w137) (w1:=(w135.setCell ⟨go129,(t182 : Int).toNat,none⟩ (.int .i64 t188))) ?hg ?ho ?hn ?hr ?_;(case ho=>rfl);(case hg=>rfl);(case hn=>rfl);(case hr=>exact GS);intro w137 hw;have hg : w135.grownBy w137 (some go129):=(by rw [hw];exact HP136.2);have hp_ : Kd.R (Kd.int .i64) 3 w137 w.heap.size (fun k_=>some k_≠(.slice Ao134 y185.length co134 : Value).ownBlock) (.slice (some ⟨go129,0,none⟩) x5_3.length co9) y191:=(by rw [hw,Ny191.out];exact HP136.1);clear HP136;replace HI0:=AM (IsS59.grown AHI hg (IsS59.own_ne HI0.out HO_5.out (by decide)));replace HO187:=AM (Kd.R_after (v:=(.slice (some ⟨go129,0,none⟩) x5_3.length co9)) (v1:=(.slice (some ⟨go129,0,none⟩) x5_3.length co9)) (ok:=(fun _=>True)) (KR HO187) hg (.inl rfl));replace HB:=AM ((by rw [hw];exact below_set (HB.out) (Nat.le_trans HL.out GB129.out) : Below w0.heap.size w0 w137));replace HK:=AM (KeepBut.trans AHK (KeepBut.of_grown hg g) (Kd.R_base2 HO_5.out));replace HO_5:=AM hp_;clear hg hw hp_));go_ret2;exact ⟨_,RE,by (with_reducible repeat (first|apply Kd.R_alloc|apply Kd.R_drewN|apply Kd.R_drew));exact Kd.R_mono HO_5.out (fun _ hk=>trivial),AHI,AHB,AHK⟩
         ·rw [if_neg c124] at H;have c124b0:=beq_eq_false_iff_ne.mpr c124;have c124b1:=bne_iff_ne.mpr c124;by_cases c138 : t179 = 1
          ·rw [if_pos c138] at H;have c138b0:=QT c138;have c138b1:=bne_eq_false_iff_eq.mpr c138;clear c138;obtain ⟨y192,hy192⟩ : ∃ y_ : List Int,y_ = (([0,3,4,5] : List Int)):=⟨_,rfl⟩;replace H : ((spec_l1Cur_among.f s0_0 t180 t181 y192).bind fun bt195=>(some (bt195.1,x5_3,bt195.2.1,bt195.2.2))) = some (r1,r2,r3,r4):=HY H hy192;have Ny192:=AM hy192;clear hy192;replace H:=EA H;obtain ⟨⟨t195,t196,t197⟩,A139,H⟩:=H;try dsimp only at H
           simp only [Option.some.injEq,Prod.mk.injEq] at H;obtain ⟨rfl,rfl,rfl,rfl⟩:=H;go_wp2_with (first|(refine GC 41 ?_;refine GM (some 132) Try.func41 (spec_l1Cur_pick.calls g s0_0 x1001_21 x1002_21 12 t179 t180 t181 w0 _ AHI AHB A123.out) ?_;rintro e w140 ⟨rfl,hi,hb,hk⟩;refine ⟨_,rfl,?_⟩;replace HO_5:=AM (Kd.R_mono (Kd.R_keep (IsS59.apart (show IsS59 w0 _ g s0_0 x1001_21 x1002_21 from AHI) (KR HO_5) (by decide)) hk (fun _ h=>h.2)) (fun _ h=>h.1));replace HK:=HX hk;replace HB:=AM hb;replace HI0:=AM hi;try clear hb hk hi)|((with_reducible refine gate_dst (N:=147) rfl ?_);refine Kd.R_lit (Kd.int .i64) _ 3 ?hg (N:=147) ?hd (xs:=([0,3,4,5] : List Int)) (inner:=[.int .i64 0,.int .i64 3,.int .i64 4,.int .i64 5]) (ok:=fun _=>True) (okp:=fun _=>True) ?hr ?hp (fun _ hk=>hk) trivial (Below.refl _ _) (Nat.le_refl _) (by simp) ?_;(case hd=>rfl);(case hg=>rfl);(case hr=>exact GS);(case hp=>exact (Reps.one (show Kd.M (Kd.int .i64) _ _ _ 0 [.int .i64 0] from rfl) (Reps.one (show Kd.M (Kd.int .i64) _ _ _ 3 [.int .i64 3] from rfl) (Reps.one (show Kd.M (Kd.int .i64) _ _ _ 4 [.int .i64 4] from rfl) (Reps.one (show Kd.M (Kd.int .i64) _ _ _ 5 [.int .i64 5] from rfl) (Reps.none _ _))))));intro v193 w141 ho142 hb hg_ hnew_;clear hg_ hnew_;(first|rw [← Ny192.out] at ho142|(simp only [Int.reduceToNat] at ho142;rw [← Ny192.out] at ho142));have HO194:=AM (Kd.R_lower (Kd.R_new' ho142 (Kd.R_lt (KR HO_5))) (keep_size (w:=w) (g:=g) (row:=none) AHK));replace HO_5:=RO HO_5 ho142 hb;replace HK:=AM (KeepBut.trans AHK (KeepBut.of_below hb g none) (.inl rfl));replace HB:=AM (below_step AHB hb);replace HI0:=AM (IsS59.below AHI hb);clear hb ho142;obtain ⟨Ao143,co143,eo143⟩:=Kd.R_slice HO194.out;subst eo143)|(refine GC 69 ?_;refine GM (some 148) Try.func69 (spec_l1Cur_among.calls g s0_0 t180 t181 _ _ y192 t195 t196 t197 w0 _ AHI AHB (CW (Kd.R_reads' HO194.out).2.2) ((Kd.R_reads' HO194.out).2.1) (far_slice (IsS59.own_ne HI0.out HO194.out (by decide))) A139.out) ?_;rintro e w144 ⟨rfl,hi,hb,hk⟩;refine ⟨_,rfl,?_⟩;replace HO_5:=AM (Kd.R_mono (Kd.R_keep (IsS59.apart (show IsS59 w0 _ g s0_0 t180 t181 from AHI) (KR HO_5) (by decide)) hk (fun _ h=>h.2)) (fun _ h=>h.1));replace HO194:=AM (Kd.R_mono (Kd.R_keep (IsS59.apart (show IsS59 w0 _ g s0_0 t180 t181 from AHI) (KR HO194) (by decide)) hk (fun _ h=>h.2)) (fun _ h=>h.1));replace HK:=HX hk;replace HB:=AM hb;replace HI0:=AM hi;try clear hb hk hi));go_ret2;exact ⟨_,RE,by (with_reducible repeat (first|apply Kd.R_alloc|apply Kd.R_drewN|apply Kd.R_drew));exact Kd.R_mono HO_5.out (fun _ hk=>trivial),AHI,AHB,AHK⟩
          ·rw [if_neg c138] at H;have c138b0:=beq_eq_false_iff_ne.mpr c138;have c138b1:=bne_iff_ne.mpr c138;simp only [Option.some.injEq,Prod.mk.injEq] at H;obtain ⟨rfl,rfl,rfl,rfl⟩:=H;go_wp2_with (first|(refine GC 41 ?_;refine GM (some 132) Try.func41 (spec_l1Cur_pick.calls g s0_0 x1001_21 x1002_21 12 t179 t180 t181 w0 _ AHI AHB A123.out) ?_;rintro e w145 ⟨rfl,hi,hb,hk⟩;refine ⟨_,rfl,?_⟩;replace HO_5:=AM (Kd.R_mono (Kd.R_keep (IsS59.apart (show IsS59 w0 _ g s0_0 x1001_21 x1002_21 from AHI) (KR HO_5) (by decide)) hk (fun _ h=>h.2)) (fun _ h=>h.1));replace HK:=HX hk;replace HB:=AM hb;replace HI0:=AM hi;try clear hb hk hi));go_ret2;exact ⟨_,RE,KR HO_5,AHI,AHB,AHK⟩

end Go.Proofs.Ytlolkkfpfjlhmaa.PFnOppositeEdgesFound
