-- Written by a program of this session (wip/tools/pp.sh) out of the translation; Lean checks it.
import Derived.Test.YtlolkkfpfjlhmaaPFnOppositeEdgesFoundx11
namespace Go.Proofs.Ytlolkkfpfjlhmaa.PFnOppositeEdgesFound
open Go.RowKit Go.Proofs.YtlolkkfpfjlhmaaOwn Go.Proofs.YtlolkkfpfjlhmaaW.PrintWords Go.Proofs.YtlolkkfpfjlhmaaW.PrintLast Go.Proofs.YtlolkkfpfjlhmaaW.PrintMore
attribute [local go_sem] max2_int min2_int max_two min_two max_three min_three max_four min_four   -- for this text's walks alone
set_option linter.unusedVariables false
set_option maxHeartbeats 8000000
set_option maxRecDepth 100000
set_option linter.unusedSimpArgs false

/-! ### spec_doNext: function 64 -/
def spec_doNext.l0 : Nat→Int→List Int→Int→Int→Option (Int)
 | 0,_,_,_,_=>none
 | k + 1,x2,x16,x17,x18=>if x18 < x17 then (if 0 ≤ x18 then (if x18 < (x16.length : Int) then (if (rd x16 x18) = x2 then (spec_doNext.l0 k x2 x16 x17 (wrap64 (x18 + 1))) else (some (rd x16 x18))) else (none)) else (none)) else (some (-1))
def spec_doNext.f (k : Nat) (l0 : List (List Int)) (l1 : List Int) (a2 : Int) : Option (Int):=if 0 < (l1.length : Int) then (if 1 < (l1.length : Int) then ((spec_meWith.f k l0 (rd l1 0) (rd l1 1)).bind fun t416=>(spec_doNext.l0 k a2 t416 (t416.length : Int) 0)) else (none)) else (none)
theorem spec_doNext.mono_l : ∀ k,(∀ y0 y1 y2 y3,LeO (spec_doNext.l0 k y0 y1 y2 y3) (spec_doNext.l0 (k + 1) y0 y1 y2 y3))
 | 0=>fun _ _ _ _ r h=>by simp [spec_doNext.l0] at h
 | k + 1=>by
  have ih0:=spec_doNext.mono_l k
  ·intro y0 y1 y2 y3
   unfold spec_doNext.l0
   have m0:=@spec_meWith.mono
   exact MO
theorem spec_doNext.mono : ∀ a0 a1 a2 k,LeO (spec_doNext.f k a0 a1 a2) (spec_doNext.f (k + 1) a0 a1 a2):=by
 intro a0 a1 a2 k;have ih0:=spec_doNext.mono_l k;unfold spec_doNext.f
 have m0:=@spec_meWith.mono
 exact MO
def spec_doNext.T1 : Bool × List (List Nat × List Nat):=(true,[([],[]),([],[]),([1],[1]),([2],[2]),([],[]),([4],[4]),([5],[5]),([0,3,6],[0,3,6]),([7],[7]),([],[])])
def spec_doNext.B1 : List Nat:=[0,0,2,6,0,16,48,127,255,0]
theorem spec_doNext.tab1 : rtab .any (opsOf Try.f64 1) = spec_doNext.T1:=by kernel_rfl
theorem spec_doNext.bits1 : waitsOk spec_doNext.T1.2 spec_doNext.B1 = true:=by kernel_rfl
theorem spec_doNext.calls (k : Nat) (A0 : Option Addr) (c0 : Nat) (l0 : List (List Int)) (A1 : Option Addr) (c1 : Nat) (l1 : List Int) (a2 : Int) (r : Int) (w : World) (hr0 : Kd.C (Kd.slice 3 (Kd.int .i64)) w A0 l0.length l0) (hc0 : l0.length ≤ c0) (hr1 : Kd.C (Kd.int .i64) w A1 l1.length l1) (hc1 : l1.length ≤ c1) (h : spec_doNext.f k l0 l1 a2 = some r) :
  Calls Try.prog 64 #[.slice A0 l0.length c0,.slice A1 l1.length c1,.int .i64 a2] w fun e w'=>e = .returned (.int .i64 r)∧Below w.heap.size w w':=by
 have HR0:=AM hr0;have HC0:=AM hc0;clear hr0 hc0;have HR1:=AM hr1;have HC1:=AM hc1;clear hr1 hc1;have HB:=HRf w;have H : (if 0 < (l1.length : Int) then (if 1 < (l1.length : Int) then ((spec_meWith.f k l0 (rd l1 0) (rd l1 1)).bind fun t416=>(spec_doNext.l0 k a2 t416 (t416.length : Int) 0)) else (none)) else (none)) = some r:=h;clear h;replace H:=IC H;obtain ⟨c4,H⟩:=H;have c4b0:=DT c4;have c4b1 : decide (0 < l1.length) = true:=DT (by omega);clear c4;replace H:=IC H;obtain ⟨c5,H⟩:=H;have c5b0:=DT c5;have c5b1 : decide (1 < l1.length) = true:=DT (by omega);clear c5;replace H:=EA H;obtain ⟨t416,A6,H⟩:=H;have H':=AM H;clear H;go_enter Try.func64,Try.ntmps64;try go_wp2
 replace HB:=AM (below_drew1 HB.out);have p414 : 0 ≤ (0 : Int):=(by omega);have q414 : 0 < (l1.length : Int):=OD AS;obtain ⟨ad414,e414,hx414_0⟩:=Kd.at_int HR1.out 0 p414 q414;have hw414_0:=hx414_0
 (try rw [show ((0 : Int)).toNat = 0 from rfl] at hw414_0)
 (try rw [show 0 * 1 = 0 from rfl] at hw414_0)
 (try rw [Addr.add_zero'] at hw414_0);cases e414;have qi414 : (0 < l1.length) = True:=ET (by omega)
 (try rw [show ((0 : Int)).toNat = 0 from rfl] at hx414_0)
 (try rw [Addr.add_zero'] at hx414_0);try (replace hx414_0:=LC hx414_0)
 replace p414:=ET p414;replace q414:=ET q414;have p415 : 0 ≤ (1 : Int):=(by omega);have q415 : 1 < (l1.length : Int):=OD AS;obtain ⟨ad415,e415,hx415_0⟩:=Kd.at_int HR1.out 1 p415 q415;have hw415_0:=hx415_0
 (try rw [show ((1 : Int)).toNat = 1 from rfl] at hw415_0)
 (try rw [show 1 * 1 = 1 from rfl] at hw415_0)
 (try simp only [Nat.reduceMul,Nat.reduceEqDiff,Go.Addr.add,↓reduceIte] at hw415_0);obtain rfl : ad414 = ad415:=(by injection e415)
 (try simp only [show (1 : Int).toNat = 1 from rfl,Nat.reduceMul,Nat.reduceEqDiff,Go.Addr.add,↓reduceIte] at hx415_0);have qi415 : (1 < l1.length) = True:=ET (by omega)
 (try rw [show ((1 : Int)).toNat = 1 from rfl] at hx415_0);try (replace hx415_0:=LC hx415_0)
 replace p415:=ET p415;replace q415:=ET q415;refine PSt (n:=10) (S:=fun w'=>w'.cell? ad414 = some (.int .i64 (rd l1 0))∧w'.cell? ⟨ad414.block,ad414.off + 1,none⟩ = some (.int .i64 (rd l1 1))) (ds:=[]) ⟨LC hw414_0,LC hw415_0⟩ (fun hHeld=>?_);refine with_tabW spec_doNext.tab1 spec_doNext.bits1 (fun HT_ HW_=>?_);generalize w.drew = w7 at HB hx414_0 hx415_0 hHeld ⊢;refine PA 0 9 HT_ ?_;refine PA 1 10 HT_ ?_;refine PA 2 11 HT_ ?_;refine PA 4 13 HT_ ?_;refine PA 5 14 HT_ ?_;refine PA 9 18 HT_ ?_;refine PB 3 12 HT_ HW_ hHeld ?_;refine PB 6 15 HT_ HW_ hHeld ?_;refine PC 7 16 HT_ (fun K hK=>?_);refine goes_ Try.func76 (by kernel_rfl) rfl #[.slice A0 l0.length c0,.int .i64 (rd l1 0),.int .i64 (rd l1 1)] (by rfl) rfl rfl TA ?_;with_reducible refine (spec_meWith.calls k _ _ l0 (rd l1 0) (rd l1 1) t416 _ ?side1 ?side2 A6.out).mono ?_
 (case side1=>exact CW (Kd.C_below HR0.out HB.out))
 (case side2=>exact HC0.out);rintro e w8 ⟨v417,rfl,ho0,hb⟩;refine ⟨_,rfl,?_⟩;have HO418:=AM (Kd.R_lower ho0 (BZ BB));replace HB:=HS hb;try clear hb ho0
 obtain ⟨Ao9,co9,eo9⟩:=Kd.R_slice HO418.out
 (first|subst eo9|(injection eo9 with f1_ f2_ f3_;have f4_:=f1_.symm;have f5_:=f3_.symm;clear f1_ f2_ f3_;subst f4_;subst f5_));refine hK.out _ _ ⟨LC hw414_0,LC hw415_0⟩ (fun hHeld=>?_);clear hK K;refine norm_ (a':=?_) ?_ ?_;rotate_left
 ·show Act.put _ (some 16) _ = _;simp only [Act.put,List.setIfInBounds_toArray,List.set_cons_zero,List.set_cons_succ,i64_w,i32_w];rfl
 refine PA 8 17 HT_ ?_;refine done_ (done_of HT_.out (by kernel_rfl)) ?_;try go_wp2
 go_loopg [18] k (fun kq v18 w'=>∃ (x18_1 : Int),v18 = .int .i64 x18_1∧Aside0 (spec_doNext.l0 kq a2 t416 (t416.length : Int) x18_1 = some r)∧Aside0 (kq ≤ k)∧Aside0 (Kd.R (Kd.int .i64) 3 w' w.heap.size (fun _=>True) (.slice Ao9 t416.length co9) t416)∧Aside0 (Below w.heap.size w w'))
 case atStart=>exact ⟨(0),RF,H',⟨Nat.le_refl _⟩,⟨KR HO418⟩,⟨BB⟩⟩
 case round =>
  clear H';try clear c1
  try clear p2
  try clear c4
  try clear c4b0
  try clear c4b1
  try clear p4
  try clear q4
  try clear hx4
  try clear qi4
  try clear c5
  try clear c5b0
  try clear c5b1
  try clear c6
  try clear p6
  try clear c7
  try clear hx414_0
  try clear hx415_0
  try clear p414
  try clear p415
  try clear q414
  try clear q415
  obtain ⟨x18_1,rfl,HA,HK1,HO_16,HB⟩:=hrel;cases gk with
  | zero=>exact absurd HA.out (by simp [spec_doNext.l0])
  | succ k1 =>
   have H:=HA.out;clear HA;simp only [spec_doNext.l0] at H;by_cases c10 : x18_1 < (t416.length : Int)
   ·rw [if_pos c10] at H;have c10b0:=DT c10;clear c10;replace H:=IC H;obtain ⟨c11,H⟩:=H;have c11b0:=DT c11;clear c11;replace H:=IC H;obtain ⟨c12,H⟩:=H;have c12b0:=DT c12;clear c12;by_cases c13 : (rd t416 x18_1) = a2
    ·rw [if_pos c13] at H;have c13b0:=QT c13;have c13b1:=bne_eq_false_iff_eq.mpr c13;clear c13;have H':=AM H;clear H;have p419 : 0 ≤ (x18_1 : Int):=OD AS;have q419 : x18_1 < (t416.length : Int):=OD AS;obtain ⟨ad419,e419,hx419_0⟩:=Kd.at_int (Kd.R_reads' HO_16.out).2.2 x18_1 p419 q419;cases e419;replace p419:=ET p419;replace q419:=ET q419;go_wp2;go_roundg k1
     case measure=>have:=HK1.out;omega
     case rel=>exact ⟨(wrap64 (x18_1 + 1)),RF,H',⟨by have:=HK1.out;omega⟩,⟨KR HO_16⟩,⟨BB⟩⟩
    ·rw [if_neg c13] at H;have c13b0:=beq_eq_false_iff_ne.mpr c13;have c13b1:=bne_iff_ne.mpr c13;obtain rfl:=Option.some.inj H;have p419 : 0 ≤ (x18_1 : Int):=OD AS;have q419 : x18_1 < (t416.length : Int):=OD AS;obtain ⟨ad419,e419,hx419_0⟩:=Kd.at_int (Kd.R_reads' HO_16.out).2.2 x18_1 p419 q419;cases e419;replace p419:=ET p419;replace q419:=ET q419;go_wp2;go_ret;exact ⟨RE,BB⟩
   ·rw [if_neg c10] at H;have c10b0:=DF c10;clear c10;obtain rfl:=Option.some.inj H;go_wp2;go_ret;exact ⟨RE,BB⟩

end Go.Proofs.Ytlolkkfpfjlhmaa.PFnOppositeEdgesFound
