-- Written by a program of this session (wip/tools/pp.sh) out of the translation; Lean checks it.
import Derived.Test.YtcecimigkndakabPFnExactFairCutx4
namespace Go.Proofs.Ytcecimigkndakab.PFnExactFairCut
open Go.RowKit Go.Proofs.YtcecimigkndakabOwn Go.Proofs.YtcecimigkndakabW.PrintWords Go.Proofs.YtcecimigkndakabW.PrintLast Go.Proofs.YtcecimigkndakabW.PrintMore
attribute [local go_sem] max2_int min2_int max_two min_two max_three min_three max_four min_four   -- for this text's walks alone
set_option linter.unusedVariables false
set_option maxHeartbeats 8000000
set_option maxRecDepth 100000
set_option linter.unusedSimpArgs false

/-! ### spec_doNext: function 46 -/
def spec_doNext.l0 : Nat→Int→List Int→Int→Int→Option (Int)
 | 0,_,_,_,_=>none
 | k + 1,x2,x16,x17,x18=>if x18 < x17 then (if 0 ≤ x18 then (if x18 < (x16.length : Int) then (if (rd x16 x18) = x2 then (spec_doNext.l0 k x2 x16 x17 (wrap64 (x18 + 1))) else (some (rd x16 x18))) else (none)) else (none)) else (some (-1))
def spec_doNext.f (k : Nat) (l0 : List (List Int)) (l1 : List Int) (a2 : Int) : Option (Int):=if 0 < (l1.length : Int) then (if 1 < (l1.length : Int) then ((spec_meWith.f k l0 (rd l1 0) (rd l1 1)).bind fun t218=>(spec_doNext.l0 k a2 t218 (t218.length : Int) 0)) else (none)) else (none)
theorem spec_doNext.mono_l : ∀ k,(∀ y0 y1 y2 y3,LeO (spec_doNext.l0 k y0 y1 y2 y3) (spec_doNext.l0 (k + 1) y0 y1 y2 y3))
 | 0=>fun _ _ _ _ r h=>by simp [spec_doNext.l0] at h
 | k + 1=>by
  have ih0:=spec_doNext.mono_l k
  ·intro y0 y1 y2 y3
   unfold spec_doNext.l0
   have m0:=@spec_meWith.mono
   exact MO
theorem spec_doNext.mono : ∀ a0 a1 a2 k,LeO (spec_doNext.f k a0 a1 a2) (spec_doNext.f (k + 1) a0 a1 a2):=by
 intro a0 a1 a2 k;have ih0:=spec_doNext.mono_l k;unfold spec_doNext.f
 have m0:=@spec_meWith.mono
 exact MO
def spec_doNext.T1 : Bool × List (List Nat × List Nat):=(true,[([],[]),([],[]),([1],[1]),([2],[2]),([],[]),([4],[4]),([5],[5]),([0,3,6],[0,3,6]),([7],[7]),([],[])])
def spec_doNext.B1 : List Nat:=[0,0,2,6,0,16,48,127,255,0]
theorem spec_doNext.tab1 : rtab .any (opsOf Try.f46 1) = spec_doNext.T1:=by kernel_rfl
theorem spec_doNext.bits1 : waitsOk spec_doNext.T1.2 spec_doNext.B1 = true:=by kernel_rfl
theorem spec_doNext.calls (k : Nat) (A0 : Option Addr) (c0 : Nat) (l0 : List (List Int)) (A1 : Option Addr) (c1 : Nat) (l1 : List Int) (a2 : Int) (r : Int) (w : World) (hr0 : Kd.C (Kd.slice 3 (Kd.int .i64)) w A0 l0.length l0) (hc0 : l0.length ≤ c0) (hr1 : Kd.C (Kd.int .i64) w A1 l1.length l1) (hc1 : l1.length ≤ c1) (h : spec_doNext.f k l0 l1 a2 = some r) :
  Calls Try.prog 46 #[.slice A0 l0.length c0,.slice A1 l1.length c1,.int .i64 a2] w fun e w'=>e = .returned (.int .i64 r)∧Below w.heap.size w w':=by
 have HR0:=AM hr0;have HC0:=AM hc0;clear hr0 hc0;have HR1:=AM hr1;have HC1:=AM hc1;clear hr1 hc1;have HB:=HRf w;have H : (if 0 < (l1.length : Int) then (if 1 < (l1.length : Int) then ((spec_meWith.f k l0 (rd l1 0) (rd l1 1)).bind fun t218=>(spec_doNext.l0 k a2 t218 (t218.length : Int) 0)) else (none)) else (none)) = some r:=h;clear h;replace H:=IC H;obtain ⟨c4,H⟩:=H;have c4b0:=DT c4;have c4b1 : decide (0 < l1.length) = true:=DT (by omega);clear c4;replace H:=IC H;obtain ⟨c5,H⟩:=H;have c5b0:=DT c5;have c5b1 : decide (1 < l1.length) = true:=DT (by omega);clear c5;replace H:=EA H;obtain ⟨t218,A6,H⟩:=H;have H':=AM H;clear H;go_enter Try.func46,Try.ntmps46;try go_wp2
 replace HB:=AM (below_drew1 HB.out);have p216 : 0 ≤ (0 : Int):=(by omega);have q216 : 0 < (l1.length : Int):=OD AS;obtain ⟨ad216,e216,hx216_0⟩:=Kd.at_int HR1.out 0 p216 q216;have hw216_0:=hx216_0
 (try rw [show ((0 : Int)).toNat = 0 from rfl] at hw216_0)
 (try rw [show 0 * 1 = 0 from rfl] at hw216_0)
 (try rw [Addr.add_zero'] at hw216_0);cases e216;have qi216 : (0 < l1.length) = True:=ET (by omega)
 (try rw [show ((0 : Int)).toNat = 0 from rfl] at hx216_0)
 (try rw [Addr.add_zero'] at hx216_0);try (replace hx216_0:=LC hx216_0)
 replace p216:=ET p216;replace q216:=ET q216;have p217 : 0 ≤ (1 : Int):=(by omega);have q217 : 1 < (l1.length : Int):=OD AS;obtain ⟨ad217,e217,hx217_0⟩:=Kd.at_int HR1.out 1 p217 q217;have hw217_0:=hx217_0
 (try rw [show ((1 : Int)).toNat = 1 from rfl] at hw217_0)
 (try rw [show 1 * 1 = 1 from rfl] at hw217_0)
 (try simp only [Nat.reduceMul,Nat.reduceEqDiff,Go.Addr.add,↓reduceIte] at hw217_0);obtain rfl : ad216 = ad217:=(by injection e217)
 (try simp only [show (1 : Int).toNat = 1 from rfl,Nat.reduceMul,Nat.reduceEqDiff,Go.Addr.add,↓reduceIte] at hx217_0);have qi217 : (1 < l1.length) = True:=ET (by omega)
 (try rw [show ((1 : Int)).toNat = 1 from rfl] at hx217_0);try (replace hx217_0:=LC hx217_0)
 replace p217:=ET p217;replace q217:=ET q217;refine PSt (n:=10) (S:=fun w'=>w'.cell? ad216 = some (.int .i64 (rd l1 0))∧w'.cell? ⟨ad216.block,ad216.off + 1,none⟩ = some (.int .i64 (rd l1 1))) (ds:=[]) ⟨LC hw216_0,LC hw217_0⟩ (fun hHeld=>?_);refine with_tabW spec_doNext.tab1 spec_doNext.bits1 (fun HT_ HW_=>?_);generalize w.drew = w7 at HB hx216_0 hx217_0 hHeld ⊢;refine PA 0 9 HT_ ?_;refine PA 1 10 HT_ ?_;refine PA 2 11 HT_ ?_;refine PA 4 13 HT_ ?_;refine PA 5 14 HT_ ?_;refine PA 9 18 HT_ ?_;refine PB 3 12 HT_ HW_ hHeld ?_;refine PB 6 15 HT_ HW_ hHeld ?_;refine PC 7 16 HT_ (fun K hK=>?_);refine goes_ Try.func59 (by kernel_rfl) rfl #[.slice A0 l0.length c0,.int .i64 (rd l1 0),.int .i64 (rd l1 1)] (by rfl) rfl rfl TA ?_;with_reducible refine (spec_meWith.calls k _ _ l0 (rd l1 0) (rd l1 1) t218 _ ?side1 ?side2 A6.out).mono ?_
 (case side1=>exact CW (Kd.C_below HR0.out HB.out))
 (case side2=>exact HC0.out);rintro e w8 ⟨v219,rfl,ho0,hb⟩;refine ⟨_,rfl,?_⟩;have HO220:=AM (Kd.R_lower ho0 (BZ BB));replace HB:=HS hb;try clear hb ho0
 obtain ⟨Ao9,co9,eo9⟩:=Kd.R_slice HO220.out
 (first|subst eo9|(injection eo9 with f1_ f2_ f3_;have f4_:=f1_.symm;have f5_:=f3_.symm;clear f1_ f2_ f3_;subst f4_;subst f5_));refine hK.out _ _ ⟨LC hw216_0,LC hw217_0⟩ (fun hHeld=>?_);clear hK K;refine norm_ (a':=?_) ?_ ?_;rotate_left
 ·show Act.put _ (some 16) _ = _;simp only [Act.put,List.setIfInBounds_toArray,List.set_cons_zero,List.set_cons_succ,i64_w,i32_w];rfl
 refine PA 8 17 HT_ ?_;refine done_ (done_of HT_.out (by kernel_rfl)) ?_;try go_wp2
 go_loopg [18] k (fun kq v18 w'=>∃ (x18_1 : Int),v18 = .int .i64 x18_1∧Aside0 (spec_doNext.l0 kq a2 t218 (t218.length : Int) x18_1 = some r)∧Aside0 (kq ≤ k)∧Aside0 (Kd.R (Kd.int .i64) 3 w' w.heap.size (fun _=>True) (.slice Ao9 t218.length co9) t218)∧Aside0 (Below w.heap.size w w'))
 case atStart=>exact ⟨(0),RF,H',⟨Nat.le_refl _⟩,⟨KR HO220⟩,⟨BB⟩⟩
 case round =>
  clear H';try clear c1
  try clear p2
  try clear q2
  try clear hx2
  try clear qi2
  try clear c4
  try clear c4b0
  try clear c4b1
  try clear c5
  try clear c5b0
  try clear c5b1
  try clear p6
  try clear hx216_0
  try clear hx217_0
  try clear p216
  try clear p217
  try clear q216
  try clear q217
  obtain ⟨x18_1,rfl,HA,HK1,HO_16,HB⟩:=hrel;cases gk with
  | zero=>exact absurd HA.out (by simp [spec_doNext.l0])
  | succ k1 =>
   have H:=HA.out;clear HA;simp only [spec_doNext.l0] at H;by_cases c10 : x18_1 < (t218.length : Int)
   ·rw [if_pos c10] at H;have c10b0:=DT c10;clear c10;replace H:=IC H;obtain ⟨c11,H⟩:=H;have c11b0:=DT c11;clear c11;replace H:=IC H;obtain ⟨c12,H⟩:=H;have c12b0:=DT c12;clear c12;by_cases c13 : (rd t218 x18_1) = a2
    ·rw [if_pos c13] at H;have c13b0:=QT c13;have c13b1:=bne_eq_false_iff_eq.mpr c13;clear c13;have H':=AM H;clear H;have p221 : 0 ≤ (x18_1 : Int):=OD AS;have q221 : x18_1 < (t218.length : Int):=OD AS;obtain ⟨ad221,e221,hx221_0⟩:=Kd.at_int (Kd.R_reads' HO_16.out).2.2 x18_1 p221 q221;cases e221;replace p221:=ET p221;replace q221:=ET q221;go_wp2;go_roundg k1
     case measure=>have:=HK1.out;omega
     case rel=>exact ⟨(wrap64 (x18_1 + 1)),RF,H',⟨by have:=HK1.out;omega⟩,⟨KR HO_16⟩,⟨BB⟩⟩
    ·rw [if_neg c13] at H;have c13b0:=beq_eq_false_iff_ne.mpr c13;have c13b1:=bne_iff_ne.mpr c13;obtain rfl:=Option.some.inj H;have p221 : 0 ≤ (x18_1 : Int):=OD AS;have q221 : x18_1 < (t218.length : Int):=OD AS;obtain ⟨ad221,e221,hx221_0⟩:=Kd.at_int (Kd.R_reads' HO_16.out).2.2 x18_1 p221 q221;cases e221;replace p221:=ET p221;replace q221:=ET q221;go_wp2;go_ret;exact ⟨RE,BB⟩
   ·rw [if_neg c10] at H;have c10b0:=DF c10;clear c10;obtain rfl:=Option.some.inj H;go_wp2;go_ret;exact ⟨RE,BB⟩

/-! ### spec_doOfCell: function 55 -/
mutual
def spec_doOfCell.l0 : Nat→List Int→List Int→List (List Int)→List Int→Int→Int→Option ((List (List Int)))
 | 0,_,_,_,_,_,_=>none
 | k + 1,x0,x1,x5,x10,x11,x12=>if x12 < x11 then (if 0 ≤ x12 then (if x12 < (x10.length : Int) then (if 0 ≤ (wrap64 (x12 + 1)) then (if (wrap64 (x12 + 1)) ≤ (x1.length : Int) then (spec_doOfCell.l1 k x0 x1 x5 (rd x10 x12) x10 x11 x12 (x1.drop ((wrap64 (x12 + 1)) : Int).toNat) ((x1.drop ((wrap64 (x12 + 1)) : Int).toNat).length : Int) 0) else (none)) else (none)) else (none)) else (none)) else (some x5)
def spec_doOfCell.l1 : Nat→List Int→List Int→List (List Int)→Int→List Int→Int→Int→List Int→Int→Int→Option ((List (List Int)))
 | 0,_,_,_,_,_,_,_,_,_,_=>none
 | k + 1,x0,x1,x5,x7,x10,x11,x12,x20,x21,x22=>if x22 < x21 then (if 0 ≤ x22 then (if x22 < (x20.length : Int) then ((spec_doDoor.f x0 x7 (rd x20 x22)).bind fun t225=>(if t225 = true then (if x5.length < 5864062014805 then (spec_doOfCell.l1 k x0 x1 (x5 ++ [(([x7,rd x20 x22] : List Int))]) x7 x10 x11 x12 x20 x21 (wrap64 (x22 + 1))) else (none)) else (spec_doOfCell.l1 k x0 x1 x5 x7 x10 x11 x12 x20 x21 (wrap64 (x22 + 1))))) else (none)) else (none)) else (spec_doOfCell.l0 k x0 x1 x5 x10 x11 (wrap64 (x12 + 1)))
end
def spec_doOfCell.f (k : Nat) (l0 : List Int) (l1 : List Int) : Option ((List (List Int))):=spec_doOfCell.l0 k l0 l1 ([] : List (List Int)) l1 (l1.length : Int) 0
theorem spec_doOfCell.mono_l : ∀ k,(∀ y0 y1 y2 y3 y4 y5,LeO (spec_doOfCell.l0 k y0 y1 y2 y3 y4 y5) (spec_doOfCell.l0 (k + 1) y0 y1 y2 y3 y4 y5))∧(∀ y0 y1 y2 y3 y4 y5 y6 y7 y8 y9,LeO (spec_doOfCell.l1 k y0 y1 y2 y3 y4 y5 y6 y7 y8 y9) (spec_doOfCell.l1 (k + 1) y0 y1 y2 y3 y4 y5 y6 y7 y8 y9))
 | 0=>⟨fun _ _ _ _ _ _=>LZ,fun _ _ _ _ _ _ _ _ _ _=>LZ⟩
 | k + 1=>by
  obtain ⟨ih0,ih1⟩:=spec_doOfCell.mono_l k
  refine ⟨?_,?_⟩ <;> intros
  all_goals (first|unfold spec_doOfCell.l0|unfold spec_doOfCell.l1)
  all_goals exact MO
theorem spec_doOfCell.mono : ∀ a0 a1 k,LeO (spec_doOfCell.f k a0 a1) (spec_doOfCell.f (k + 1) a0 a1):=by
 intro a0 a1 k;obtain ⟨ih0,ih1⟩:=spec_doOfCell.mono_l k;unfold spec_doOfCell.f
 exact MO
theorem spec_doOfCell.calls (k : Nat) (A0 : Option Addr) (c0 : Nat) (l0 : List Int) (A1 : Option Addr) (c1 : Nat) (l1 : List Int) (r : List (List Int)) (w : World) (hr0 : Kd.C (Kd.int .i64) w A0 l0.length l0) (hc0 : l0.length ≤ c0) (hr1 : Kd.C (Kd.int .i64) w A1 l1.length l1) (hc1 : l1.length ≤ c1) (h : spec_doOfCell.f k l0 l1 = some r) :
  Calls Try.prog 55 #[.slice A0 l0.length c0,.slice A1 l1.length c1] w fun e w'=>∃ v0_ : Value,e = .returned (v0_)∧Kd.S (Kd.slice 3 (Kd.int .i64)) 24 w' w.heap.size (fun _=>True) v0_ r∧Below w.heap.size w w':=by
 have HR0:=AM hr0;have HC0:=AM hc0;clear hr0 hc0;have HR1:=AM hr1;have HC1:=AM hc1;clear hr1 hc1;have HB:=HRf w;have H : (spec_doOfCell.l0 k l0 l1 ([] : List (List Int)) l1 (l1.length : Int) 0) = some r:=h;clear h;have H':=AM H;clear H;go_enter Try.func55,Try.ntmps55;go_wp2;go_loopg [5,12] k (fun kq v5 v12 w'=>∃ (x5_1 : List (List Int)) (x12_1 : Int),v12 = .int .i64 x12_1∧Aside0 (spec_doOfCell.l0 kq l0 l1 x5_1 l1 (l1.length : Int) x12_1 = some r)∧Aside0 (kq ≤ k)∧Aside0 (Kd.S (Kd.slice 3 (Kd.int .i64)) 24 w' w.heap.size (fun _=>True) v5 x5_1)∧Aside0 (Below w.heap.size w w'))
 case atStart=>exact ⟨(([] : List (List Int))),(0),RF,H',⟨Nat.le_refl _⟩,⟨by first|exact Kd.S_nil _ _ _ _ _|exact Kd.N_nil _ _ _ _ _|exact Kd.V_nil _ _ _ _ _|exact Kd.Q_nil _ _ _ _ _|exact Kd.R_nil _ _ _ _ _⟩,⟨BB⟩⟩
 case round =>
  clear H';try clear c1
  try clear p2
  obtain ⟨x5_1,x12_1,rfl,HA,HK1,HO_5,HB⟩:=hrel;cases gk with
  | zero=>exact absurd HA.out (by simp [spec_doOfCell.l0])
  | succ k1 =>
   have H:=HA.out;clear HA;simp only [spec_doOfCell.l0] at H;by_cases c3 : x12_1 < (l1.length : Int)
   ·rw [if_pos c3] at H;have c3b0:=DT c3;clear c3;replace H:=IC H;obtain ⟨c4,H⟩:=H;have c4b0:=DT c4;clear c4;replace H:=IC H;obtain ⟨c5,H⟩:=H;have c5b0:=DT c5;clear c5;obtain ⟨ji6,hji6⟩ : ∃ j_ : Int,(wrap64 (x12_1 + 1)) = j_:=⟨_,rfl⟩;replace H : (if 0 ≤ (ji6) then (if (ji6) ≤ (l1.length : Int) then (spec_doOfCell.l1 k1 l0 l1 x5_1 (rd l1 x12_1) l1 (l1.length : Int) x12_1 (l1.drop ((ji6) : Int).toNat) ((l1.drop ((ji6) : Int).toNat).length : Int) 0) else (none)) else (none)) = some r:=by first|(rw [hji6] at H;exact H)|(simp only [hji6] at H ⊢;exact H)
    have hji6w : (IntKind.i64.wrap (x12_1 + 1)) = ji6:=(i64_w _).trans hji6;replace H:=IC H;obtain ⟨c7,H⟩:=H;have c7b0:=ET c7;have c7b1:=DT c7;clear c7;replace H:=IC H;obtain ⟨c8,H⟩:=H;have c8b0:=ET c8;have c8b1:=DT c8;clear c8;have H':=AM H;clear H;have p222 : 0 ≤ (x12_1 : Int):=OD AS;have q222 : x12_1 < (l1.length : Int):=OD AS;obtain ⟨ad222,e222,hx222_0⟩:=Kd.at_int HR1.out x12_1 p222 q222;cases e222;try (replace hx222_0:=LC hx222_0)
    replace p222:=ET p222;replace q222:=ET q222;obtain ⟨i09,hi09,_,hsz9,_⟩:=info_parts info3;obtain ⟨A9,hcut9,hA9,hC9⟩:=print_drop_of (P:=Try.prog) (Value.int .i64) 0 24 3 .i64 Try.underlying24 hi09 hsz9 (some ad222) c1 l1 (ji6) (OD AS) (OD AS) HC1.out;have HR223:=AM (Kd.C_of_reads (h1:=fun _=>rfl) (hA9 _ (Kd.reads_of_C HR1.out)));have HC223:=AM hC9;clear hA9 hC9 hi09 hsz9;go_wp2;go_loopg [5,22] k1 (fun kq v5 v22 w'=>∃ (x5_2 : List (List Int)) (x22_2 : Int),v22 = .int .i64 x22_2∧Aside0 (spec_doOfCell.l1 kq l0 l1 x5_2 (rd l1 x12_1) l1 (l1.length : Int) x12_1 (l1.drop ((ji6) : Int).toNat) ((l1.drop ((ji6) : Int).toNat).length : Int) x22_2 = some r)∧Aside0 (kq ≤ k1)∧Aside0 (Kd.S (Kd.slice 3 (Kd.int .i64)) 24 w' w.heap.size (fun _=>True) v5 x5_2)∧Aside0 (Below w.heap.size w w'))
    case atStart=>exact ⟨(x5_1),(0),RF,H',⟨Nat.le_refl _⟩,⟨KS HO_5⟩,⟨BB⟩⟩
    case round =>
     clear H';try clear c1
     try clear p2
     try clear q2
     try clear hx2
     try clear c3
     try clear c3b0
     try clear c4
     try clear c4b0
     try clear c5
     try clear c5b0
     try clear p6
     try clear c7
     try clear c7b0
     try clear c7b1
     try clear c8
     try clear c8b0
     try clear c8b1
     try clear hx222_0
     try clear p2
     try clear p222
     try clear q222
     obtain ⟨x5_2,x22_2,rfl,HA,HK2,HO_5,HB⟩:=hrel;cases gk with
     | zero=>exact absurd HA.out (by simp [spec_doOfCell.l1])
     | succ k2 =>
      have H:=HA.out;clear HA;simp only [spec_doOfCell.l1] at H;by_cases c10 : x22_2 < ((l1.drop ((ji6) : Int).toNat).length : Int)
      ·rw [if_pos c10] at H;have c10b0:=DT c10;have c10bd : decide (x22_2 < ((l1.length - ((ji6) : Int).toNat : Nat) : Int)) = true:=by rw [← List.length_drop];exact c10b0
       clear c10;replace H:=IC H;obtain ⟨c11,H⟩:=H;have c11b0:=DT c11;clear c11;replace H:=IC H;obtain ⟨c12,H⟩:=H;have c12b0:=DT c12;have c12bd : decide (x22_2 < ((l1.length - ((ji6) : Int).toNat : Nat) : Int)) = true:=by rw [← List.length_drop];exact c12b0
       clear c12;replace H:=EA H;obtain ⟨t225,A13,H⟩:=H;by_cases c14 : t225 = true
       ·subst c14;replace H:=IP H;obtain ⟨y226,hy226⟩ : ∃ y_ : List Int,y_ = (([(rd l1 x12_1),rd (l1.drop ((ji6) : Int).toNat) x22_2] : List Int)):=⟨_,rfl⟩;replace H : (if x5_2.length < 5864062014805 then (spec_doOfCell.l1 k2 l0 l1 (x5_2 ++ [y226]) (rd l1 x12_1) l1 (l1.length : Int) x12_1 (l1.drop ((ji6) : Int).toNat) ((l1.drop ((ji6) : Int).toNat).length : Int) (wrap64 (x22_2 + 1))) else (none)) = some r:=HY H hy226;have Ny226:=AM hy226;clear hy226;replace H:=IC H;obtain ⟨c15,H⟩:=H;have LMc15:=AM c15;clear c15;obtain ⟨y229,hy229⟩ : ∃ y_ : List (List Int),y_ = (x5_2 ++ [y226]):=⟨_,rfl⟩;replace H : (spec_doOfCell.l1 k2 l0 l1 y229 (rd l1 x12_1) l1 (l1.length : Int) x12_1 (l1.drop ((ji6) : Int).toNat) ((l1.drop ((ji6) : Int).toNat).length : Int) (wrap64 (x22_2 + 1))) = some r:=HY H hy229;have Ny229:=AM hy229;clear hy229;have H':=AM H;clear H;have p224 : 0 ≤ (x22_2 : Int):=OD AS;have q224 : x22_2 < ((l1.drop ((ji6) : Int).toNat).length : Int):=OD AS;have q224d : (x22_2 < ((l1.length - ((ji6) : Int).toNat : Nat) : Int)) = True:=ET (by rw [← List.length_drop];exact q224);obtain ⟨ad224,e224,hx224_0⟩:=Kd.at_int HR223.out x22_2 p224 q224;cases e224;try (replace hx224_0:=LC hx224_0)
        replace p224:=ET p224;replace q224:=ET q224;go_wp2_with (first|((with_reducible refine gate_callee (f:=43) rfl ?_);refine goesL_ (some 29) rfl rfl Try.func43 (by kernel_rfl) rfl #[.slice A0 l0.length c0,.int .i64 (rd l1 x12_1),.int .i64 (rd (l1.drop ((ji6) : Int).toNat) x22_2)] rfl (by (try simp only [List.map_toArray,List.map_cons,List.map_nil]);first|done|(simp only [hji6];rfl)|rfl|(simp only [List.length_drop,List.length_take];rfl)) ?_;(with_reducible refine (spec_doDoor.calls _ _ l0 (rd l1 x12_1) (rd (l1.drop ((ji6) : Int).toNat) x22_2) true _ (CW (Kd.C_below HR0.out HB.out)) HC0.out A13.out).mono ?_);rintro e w' ⟨rfl,⟨nd,rfl⟩⟩;refine ⟨_,rfl,?_⟩)|((with_reducible refine gate_dst (N:=33) rfl ?_);refine Kd.R_lit (Kd.int .i64) _ 3 ?hg (N:=33) ?hd (xs:=([(rd l1 x12_1),rd (l1.drop ((ji6) : Int).toNat) x22_2] : List Int)) (inner:=[.int .i64 (rd l1 x12_1),.int .i64 (rd (l1.drop ((ji6) : Int).toNat) x22_2)]) (ok:=fun _=>True) (okp:=fun _=>True) ?hr ?hp (fun _ hk=>hk) trivial (Below.refl _ _) (Nat.le_refl _) (by simp) ?_;(case hd=>rfl);(case hg=>rfl);(case hr=>exact GS);(case hp=>exact (Reps.one (show Kd.M (Kd.int .i64) _ _ _ (rd l1 x12_1) [.int .i64 (rd l1 x12_1)] from rfl) (Reps.one (show Kd.M (Kd.int .i64) _ _ _ (rd (l1.drop ((ji6) : Int).toNat) x22_2) [.int .i64 (rd (l1.drop ((ji6) : Int).toNat) x22_2)] from rfl) (Reps.none _ _))));intro v227 w16 ho17 hb hg_ hnew_;clear hg_ hnew_;(first|rw [← Ny226.out] at ho17|(simp only [Int.reduceToNat] at ho17;rw [← Ny226.out] at ho17));replace HO_5:=SO HO_5 ho17 hb;have HO228:=AM (Kd.R_lower ho17 (BZ BB));replace HB:=HS hb;clear hb ho17;obtain ⟨Ao19,co19,eo19⟩:=Kd.R_slice HO228.out;subst eo19)|((with_reducible refine gate_builtin (b:=.append) (xs:=#[.tmp 30,.tmp 34]) rfl ?_);at_builtin;refine Kd.S_append (Kd.slice 3 (Kd.int .i64)) (w0:=w) w.heap.size rfl (.tmp 30) (.tmp 34) 22 24 (.slice none 0 0) 24 rfl Try.underlying22 info24 rfl (by decide) (by omega) u5 x5_2 y226 [.slice Ao19 y226.length co19] (fun _=>True) (fun k_=>some k_ = (.slice Ao19 y226.length co19 : Value).ownBlock) rfl rfl ?aP (fun k_ hk_=>((Kd.R_mono (ok':=fun k_=>((fun _=>True)) k_∧some k_≠(u5 : Value).ownBlock) (Kd.R_apart' (HO228.out) (Kd.S_typed HO_5.out) (by decide)) (fun k_ hk=>⟨trivial,hk.2⟩))).1 k_ hk_.symm) ?aF ?aO ?aB ?aS ?aL ?_;(case aP=>exact Kd.M_row (Kd.R_mono (Kd.R_tight rfl (Kd.R_mono (ok':=fun k_=>((fun _=>True)) k_∧some k_≠(u5 : Value).ownBlock) (Kd.R_apart' (HO228.out) (Kd.S_typed HO_5.out) (by decide)) (fun k_ hk=>⟨trivial,hk.2⟩))) (fun _ h_=>h_)));(case aB=>exact BB);(case aF=>exact (fun _ _=>trivial));(case aO=>exact (by (with_reducible repeat (first|apply Kd.S_alloc|apply Kd.S_drewN|apply Kd.S_drew));exact Kd.S_mono HO_5.out (fun k_ hk=>⟨trivial,fun e_=>hk.2 e_⟩)));(case aS=>exact (BZ BB));(case aL=>have:=LMc15.out;omega);intro v230 w18 ho hb hg hat;rw [← Ny229.out] at ho;replace HB:=AM hb;have HO231:=AM ho;clear HO_5 HO228;clear ho hb hg hat));go_roundg k2
        case measure=>have:=HK1.out;have:=HK2.out;omega
        case rel=>exact ⟨(y229),(wrap64 (x22_2 + 1)),RF,H',⟨by have:=HK1.out;have:=HK2.out;omega⟩,⟨KS HO231⟩,⟨BB⟩⟩
       ·replace c14:=NF c14;subst c14;replace H:=IN H;have H':=AM H;clear H;have p224 : 0 ≤ (x22_2 : Int):=OD AS;have q224 : x22_2 < ((l1.drop ((ji6) : Int).toNat).length : Int):=OD AS;have q224d : (x22_2 < ((l1.length - ((ji6) : Int).toNat : Nat) : Int)) = True:=ET (by rw [← List.length_drop];exact q224);obtain ⟨ad224,e224,hx224_0⟩:=Kd.at_int HR223.out x22_2 p224 q224;cases e224;try (replace hx224_0:=LC hx224_0)
        replace p224:=ET p224;replace q224:=ET q224;go_wp2_with (first|((with_reducible refine gate_callee (f:=43) rfl ?_);refine goesL_ (some 29) rfl rfl Try.func43 (by kernel_rfl) rfl #[.slice A0 l0.length c0,.int .i64 (rd l1 x12_1),.int .i64 (rd (l1.drop ((ji6) : Int).toNat) x22_2)] rfl (by (try simp only [List.map_toArray,List.map_cons,List.map_nil]);first|done|(simp only [hji6];rfl)|rfl|(simp only [List.length_drop,List.length_take];rfl)) ?_;(with_reducible refine (spec_doDoor.calls _ _ l0 (rd l1 x12_1) (rd (l1.drop ((ji6) : Int).toNat) x22_2) false _ (CW (Kd.C_below HR0.out HB.out)) HC0.out A13.out).mono ?_);rintro e w' ⟨rfl,⟨nd,rfl⟩⟩;refine ⟨_,rfl,?_⟩));go_roundg k2
        case measure=>have:=HK1.out;have:=HK2.out;omega
        case rel=>exact ⟨(x5_2),(wrap64 (x22_2 + 1)),RF,H',⟨by have:=HK1.out;have:=HK2.out;omega⟩,⟨KS HO_5⟩,⟨BB⟩⟩
      ·rw [if_neg c10] at H;have c10b0:=DF c10;have c10bd : decide (x22_2 < ((l1.length - ((ji6) : Int).toNat : Nat) : Int)) = false:=by rw [← List.length_drop];exact c10b0
       clear c10;have H':=AM H;clear H;go_wp2;go_roundg k2
       case measure=>have:=HK1.out;have:=HK2.out;omega
       case rel=>exact ⟨(x5_2),(wrap64 (x12_1 + 1)),RF,H',⟨by have:=HK1.out;have:=HK2.out;omega⟩,⟨KS HO_5⟩,⟨BB⟩⟩
   ·rw [if_neg c3] at H;have c3b0:=DF c3;clear c3;obtain rfl:=Option.some.inj H;go_wp2;go_ret;exact ⟨_,RE,KS HO_5,BB⟩

/-! ### spec_l1Same: function 56 -/
def spec_l1Same.l0 : Nat→List Int→List Int→Int→Int→Option (Bool)
 | 0,_,_,_,_=>none
 | k + 1,x0,x1,x12,x13=>if x13 < x12 then (if 0 ≤ x13 then (if x13 < (x0.length : Int) then (if x13 < (x1.length : Int) then (if (rd x0 x13) = (rd x1 x13) then (spec_l1Same.l0 k x0 x1 x12 (wrap64 (x13 + 1))) else (some false)) else (none)) else (none)) else (none)) else (some true)
def spec_l1Same.f (k : Nat) (l0 : List Int) (l1 : List Int) : Option (Bool):=if (l0.length : Int) = (l1.length : Int) then (spec_l1Same.l0 k l0 l1 (l0.length : Int) 0) else (some false)
theorem spec_l1Same.mono_l : ∀ k,(∀ y0 y1 y2 y3,LeO (spec_l1Same.l0 k y0 y1 y2 y3) (spec_l1Same.l0 (k + 1) y0 y1 y2 y3))
 | 0=>fun _ _ _ _ r h=>by simp [spec_l1Same.l0] at h
 | k + 1=>by
  have ih0:=spec_l1Same.mono_l k
  ·intro y0 y1 y2 y3
   unfold spec_l1Same.l0
   exact MO
theorem spec_l1Same.mono : ∀ a0 a1 k,LeO (spec_l1Same.f k a0 a1) (spec_l1Same.f (k + 1) a0 a1):=by
 intro a0 a1 k;have ih0:=spec_l1Same.mono_l k;unfold spec_l1Same.f
 exact MO
theorem spec_l1Same.calls (k : Nat) (A0 : Option Addr) (c0 : Nat) (l0 : List Int) (A1 : Option Addr) (c1 : Nat) (l1 : List Int) (r : Bool) (w : World) (hr0 : Kd.C (Kd.int .i64) w A0 l0.length l0) (hc0 : l0.length ≤ c0) (hr1 : Kd.C (Kd.int .i64) w A1 l1.length l1) (hc1 : l1.length ≤ c1) (h : spec_l1Same.f k l0 l1 = some r) :
  Calls Try.prog 56 #[.slice A0 l0.length c0,.slice A1 l1.length c1] w fun e w'=>e = .returned (.bool r)∧Drawn0 w w':=by
 have HR0:=AM hr0;have HC0:=AM hc0;clear hr0 hc0;have HR1:=AM hr1;have HC1:=AM hc1;clear hr1 hc1;have H : (if (l0.length : Int) = (l1.length : Int) then (spec_l1Same.l0 k l0 l1 (l0.length : Int) 0) else (some false)) = some r:=h;clear h;by_cases c3 : (l0.length : Int) = (l1.length : Int)
 ·rw [if_pos c3] at H;have c3b0:=QT c3;have c3b1:=bne_eq_false_iff_eq.mpr c3;have c3b2 : (l0.length == l1.length) = true:=by first|simpa using c3|(simp at c3 ⊢;omega)
  clear c3;have H':=AM H;clear H;go_enter Try.func56,Try.ntmps56;go_wp2;repeat (go_quiet (fail);try go_wp2)
  go_loopg [13] k (fun kq v13 w'=>∃ (x13_1 : Int),v13 = .int .i64 x13_1∧Aside0 (spec_l1Same.l0 kq l0 l1 (l0.length : Int) x13_1 = some r)∧Aside0 (kq ≤ k)∧Drawn0 w w')
  case atStart=>exact ⟨(0),RF,H',⟨Nat.le_refl _⟩,by repeat (first|exact Drawn0.refl _|apply Drawn0.step)⟩
  case round =>
   clear H';try clear c1
   try clear p2
   try clear c3
   try clear c3b0
   try clear c3b1
   try clear c3b2
   obtain ⟨x13_1,rfl,HA,HK1,⟨m1,rfl⟩⟩:=hrel;cases gk with
   | zero=>exact absurd HA.out (by simp [spec_l1Same.l0])
   | succ k1 =>
    have H:=HA.out;clear HA;simp only [spec_l1Same.l0] at H;by_cases c4 : x13_1 < (l0.length : Int)
    ·rw [if_pos c4] at H;have c4b0:=DT c4;clear c4;replace H:=IC H;obtain ⟨c5,H⟩:=H;have c5b0:=DT c5;clear c5;replace H:=IC H;obtain ⟨c6,H⟩:=H;have c6b0:=DT c6;clear c6;replace H:=IC H;obtain ⟨c7,H⟩:=H;have c7b0:=DT c7;clear c7;by_cases c8 : (rd l0 x13_1) = (rd l1 x13_1)
     ·rw [if_pos c8] at H;have c8b0:=QT c8;have c8b1:=bne_eq_false_iff_eq.mpr c8;clear c8;have H':=AM H;clear H;have p232 : 0 ≤ (x13_1 : Int):=OD AS;have q232 : x13_1 < (l0.length : Int):=OD AS;obtain ⟨ad232,e232,hx232_0⟩:=Kd.at_int HR0.out x13_1 p232 q232;cases e232;replace p232:=ET p232;replace q232:=ET q232;have p233 : 0 ≤ (x13_1 : Int):=OD AS;have q233 : x13_1 < (l1.length : Int):=OD AS;obtain ⟨ad233,e233,hx233_0⟩:=Kd.at_int HR1.out x13_1 p233 q233;cases e233;replace p233:=ET p233;replace q233:=ET q233;go_wp2;repeat (go_quiet (fail);try go_wp2)
      go_roundg k1
      case measure=>have:=HK1.out;omega
      case rel=>exact ⟨(wrap64 (x13_1 + 1)),RF,H',⟨by have:=HK1.out;omega⟩,by repeat (first|exact Drawn0.refl _|apply Drawn0.step)⟩
     ·rw [if_neg c8] at H;have c8b0:=beq_eq_false_iff_ne.mpr c8;have c8b1:=bne_iff_ne.mpr c8;obtain rfl:=Option.some.inj H;have p232 : 0 ≤ (x13_1 : Int):=OD AS;have q232 : x13_1 < (l0.length : Int):=OD AS;obtain ⟨ad232,e232,hx232_0⟩:=Kd.at_int HR0.out x13_1 p232 q232;cases e232;replace p232:=ET p232;replace q232:=ET q232;have p233 : 0 ≤ (x13_1 : Int):=OD AS;have q233 : x13_1 < (l1.length : Int):=OD AS;obtain ⟨ad233,e233,hx233_0⟩:=Kd.at_int HR1.out x13_1 p233 q233;cases e233;replace p233:=ET p233;replace q233:=ET q233;go_wp2;repeat (go_quiet (fail);try go_wp2)
      go_ret;exact ⟨RF,DR⟩
    ·rw [if_neg c4] at H;have c4b0:=DF c4;clear c4;obtain rfl:=Option.some.inj H;go_wp2;repeat (go_quiet (fail);try go_wp2)
     go_ret;exact ⟨RF,DR⟩
 ·rw [if_neg c3] at H;have c3b0:=beq_eq_false_iff_ne.mpr c3;have c3b1:=bne_iff_ne.mpr c3;have c3b2 : (l0.length == l1.length) = false:=by first|simpa using c3|(simp at c3 ⊢;omega)
  obtain rfl:=Option.some.inj H;go_enter Try.func56,Try.ntmps56;go_wp2;repeat (go_quiet (fail);try go_wp2)
  go_ret;exact ⟨RF,DR⟩

end Go.Proofs.Ytcecimigkndakab.PFnExactFairCut
