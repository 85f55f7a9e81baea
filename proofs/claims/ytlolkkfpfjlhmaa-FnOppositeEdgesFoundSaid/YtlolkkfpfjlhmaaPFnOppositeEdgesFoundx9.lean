-- Written by a program of this session (wip/tools/pp.sh) out of the translation; Lean checks it.
import Derived.Test.YtlolkkfpfjlhmaaPFnOppositeEdgesFoundx7
import Derived.Test.YtlolkkfpfjlhmaaPFnOppositeEdgesFoundx8
namespace Go.Proofs.Ytlolkkfpfjlhmaa.PFnOppositeEdgesFound
open Go.RowKit Go.Proofs.YtlolkkfpfjlhmaaOwn Go.Proofs.YtlolkkfpfjlhmaaW.PrintWords Go.Proofs.YtlolkkfpfjlhmaaW.PrintLast Go.Proofs.YtlolkkfpfjlhmaaW.PrintMore
attribute [local go_sem] max2_int min2_int max_two min_two max_three min_three max_four min_four   -- for this text's walks alone
set_option linter.unusedVariables false
set_option maxHeartbeats 8000000
set_option maxRecDepth 100000
set_option linter.unusedSimpArgs false

/-! ### impl_FindOpposite: function 6 -/
mutual
def impl_FindOpposite.l0 : Nat→Int→List Int→List (List Int)→Int→Int→Option (List Int × Bool)
 | 0,_,_,_,_,_=>none
 | k + 1,x0,x1,x19,x20,x21=>if x21 < x20 then (if 0 ≤ x21 then (if x21 < (x19.length : Int) then (if 0 < ((rd_L2 x19 x21).length : Int) then (if 0 ≤ (rd (rd_L2 x19 x21) 0) then (if (rd (rd_L2 x19 x21) 0) < (x1.length : Int) then (if 1 < ((rd_L2 x19 x21).length : Int) then (if 0 ≤ (rd (rd_L2 x19 x21) 1) then (if (rd (rd_L2 x19 x21) 1) < (x1.length : Int) then (if (wrap64 ((rd x1 (rd (rd_L2 x19 x21) 0)) + (rd x1 (rd (rd_L2 x19 x21) 1)))) = 0 then ((impl_sorted.f (rd (rd_L2 x19 x21) 0) (rd (rd_L2 x19 x21) 1)).bind fun t322=>(some (t322,true))) else (impl_FindOpposite.l0 k x0 x1 x19 x20 (wrap64 (x21 + 1)))) else (none)) else (none)) else (none)) else (none)) else (none)) else (none)) else (none)) else (none)) else ((impl_square_cells.f k x0).bind fun t325=>((impl_squareDoors.f k x0 x1).bind fun t328=>(impl_FindOpposite.l1 k x1 t325 t328 (t328.length : Int) 0)))
def impl_FindOpposite.l1 : Nat→List Int→List (List Int)→List (List Int)→Int→Int→Option (List Int × Bool)
 | 0,_,_,_,_,_=>none
 | k + 1,x1,x8,x52,x53,x54=>if x54 < x53 then (if 0 ≤ x54 then (if x54 < (x52.length : Int) then (if 0 < ((rd_L2 x52 x54).length : Int) then (if 1 < ((rd_L2 x52 x54).length : Int) then ((impl_squareWalk.f k x1 x8 (rd (rd_L2 x52 x54) 0) (rd (rd_L2 x52 x54) 1)).bind fun bt334=>(if bt334.2 ≥ 0 then (if 0 ≤ bt334.2 then (if bt334.2 < (x8.length : Int) then ((impl_firstEdge.f k x1 (rd_L2 x8 bt334.2)).bind fun t339=>(some (t339,true))) else (none)) else (none)) else (impl_FindOpposite.l1 k x1 x8 x52 x53 (wrap64 (x54 + 1))))) else (none)) else (none)) else (none)) else (none)) else (some (([] : List Int),false))
end
def impl_FindOpposite.f (k : Nat) (a0 : Int) (l1 : List Int) : Option (List Int × Bool):=(impl_areOpposite.f k a0 l1).bind fun t311=>(if t311 = true then ((impl_square_steps.f k a0).bind fun t312=>(impl_FindOpposite.l0 k a0 l1 t312 (t312.length : Int) 0)) else (some (([] : List Int),false)))
theorem impl_FindOpposite.mono_l : ∀ k,(∀ y0 y1 y2 y3 y4,LeO (impl_FindOpposite.l0 k y0 y1 y2 y3 y4) (impl_FindOpposite.l0 (k + 1) y0 y1 y2 y3 y4))∧(∀ y0 y1 y2 y3 y4,LeO (impl_FindOpposite.l1 k y0 y1 y2 y3 y4) (impl_FindOpposite.l1 (k + 1) y0 y1 y2 y3 y4))
 | 0=>⟨fun _ _ _ _ _=>LZ,fun _ _ _ _ _=>LZ⟩
 | k + 1=>by
  obtain ⟨ih0,ih1⟩:=impl_FindOpposite.mono_l k
  have m0:=@impl_areOpposite.mono
  have m1:=@impl_firstEdge.mono
  have m2:=@impl_squareDoors.mono
  have m3:=@impl_squareWalk.mono
  have m4:=@impl_square_cells.mono
  have m5:=@impl_square_steps.mono
  refine ⟨?_,?_⟩ <;> intros
  all_goals (first|unfold impl_FindOpposite.l0|unfold impl_FindOpposite.l1)
  all_goals exact MO
theorem impl_FindOpposite.mono : ∀ a0 a1 k,LeO (impl_FindOpposite.f k a0 a1) (impl_FindOpposite.f (k + 1) a0 a1):=by
 intro a0 a1 k;obtain ⟨ih0,ih1⟩:=impl_FindOpposite.mono_l k;unfold impl_FindOpposite.f
 have m0:=@impl_areOpposite.mono
 have m1:=@impl_firstEdge.mono
 have m2:=@impl_squareDoors.mono
 have m3:=@impl_squareWalk.mono
 have m4:=@impl_square_cells.mono
 have m5:=@impl_square_steps.mono
 exact MO
def impl_FindOpposite.T6 : Bool × List (List Nat × List Nat):=(true,[([],[]),([],[]),([1],[1]),([2],[2]),([0,3],[0,3]),([4],[4]),([],[]),([],[]),([7],[7]),([8],[8]),([6,9],[6,9]),([10],[10]),([5,11],[5,11]),([12],[12])])
def impl_FindOpposite.B6 : List Nat:=[0,0,2,6,15,31,0,0,128,384,960,1984,4095,8191]
theorem impl_FindOpposite.tab6 : rtab .any (opsOf Try.f6 6) = impl_FindOpposite.T6:=by kernel_rfl
theorem impl_FindOpposite.bits6 : waitsOk impl_FindOpposite.T6.2 impl_FindOpposite.B6 = true:=by kernel_rfl
def impl_FindOpposite.T7 : Bool × List (List Nat × List Nat):=(true,[([],[]),([0],[0]),([1],[1]),([],[]),([3],[3]),([4],[4]),([2,5],[2,5]),([6,6,0,1,2,3,4,5,6],[6]),([7,0,1,2,3,4,5,6,7],[])])
def impl_FindOpposite.B7 : List Nat:=[0,1,3,0,8,24,63,127,255]
theorem impl_FindOpposite.tab7 : rtab .any (opsOf Try.f6 7) = impl_FindOpposite.T7:=by kernel_rfl
theorem impl_FindOpposite.bits7 : waitsOk impl_FindOpposite.T7.2 impl_FindOpposite.B7 = true:=by kernel_rfl
def impl_FindOpposite.T13 : Bool × List (List Nat × List Nat):=(true,[([],[]),([],[]),([],[]),([2],[2]),([3],[3]),([],[]),([5],[5]),([6],[6]),([0,1,4,7],[0,1,4,7]),([8],[8]),([9],[9]),([9],[9]),([10,8,0,1,2,3,4,5,6,7,8,9,10],[10]),([11,12,0,1,2,3,4,5,6,7,8,9,10,11,12],[11])])
def impl_FindOpposite.B13 : List Nat:=[0,0,0,4,12,0,32,96,255,511,1023,1023,2047,8191]
theorem impl_FindOpposite.tab13 : rtab .any (opsOf Try.f6 13) = impl_FindOpposite.T13:=by kernel_rfl
theorem impl_FindOpposite.bits13 : waitsOk impl_FindOpposite.T13.2 impl_FindOpposite.B13 = true:=by kernel_rfl
theorem impl_FindOpposite.calls (k : Nat) (a0 : Int) (A1 : Option Addr) (c1 : Nat) (l1 : List Int) (r1 : List Int) (r2 : Bool) (w : World) (hr1 : Kd.C (Kd.int .i64) w A1 l1.length l1) (hc1 : l1.length ≤ c1) (h : impl_FindOpposite.f k a0 l1 = some (r1,r2)) :
  Calls Try.prog 6 #[.int .i64 a0,.slice A1 l1.length c1] w fun e w'=>∃ v0_ : Value,e = .returned (.tuple #[v0_,.bool r2])∧Kd.R (Kd.int .i64) 3 w' w.heap.size (fun _=>True) v0_ r1∧Below w.heap.size w w':=by
 have hu43:=Try.underlying43;have HR1:=AM hr1;have HC1:=AM hc1;clear hr1 hc1;have HB:=HRf w;have H : ((impl_areOpposite.f k a0 l1).bind fun t311=>(if t311 = true then ((impl_square_steps.f k a0).bind fun t312=>(impl_FindOpposite.l0 k a0 l1 t312 (t312.length : Int) 0)) else (some (([] : List Int),false)))) = some (r1,r2):=h;clear h;replace H:=EA H;obtain ⟨t311,A3,H⟩:=H;by_cases c4 : t311 = true
 ·subst c4;replace H:=IP H;replace H:=EA H;obtain ⟨t312,A5,H⟩:=H;have H':=AM H;clear H;go_enter Try.func6,Try.ntmps6;go_wp2_with (first|(refine GC 21 ?_;refine GM (some 15) Try.func21 (impl_areOpposite.calls k a0 _ _ l1 true _ (CW HR1.out) HC1.out A3.out) ?_;rintro e w6 ⟨rfl,hb⟩;refine ⟨_,rfl,?_⟩;replace HB:=HS hb;try clear hb)|(refine GC 22 ?_;refine GM (some 19) Try.func22 (impl_square_steps.calls k a0 t312 _ A5.out) ?_;rintro e w7 ⟨v313,rfl,ho0,hb⟩;refine ⟨_,rfl,?_⟩;have HO314:=AM (Kd.S_lower ho0 (BZ BB));replace HB:=HS hb;try clear hb ho0;obtain ⟨Ao8,co8,eo8⟩:=Kd.S_slice HO314.out;subst eo8));go_loopg [21] k (fun kq v21 w'=>∃ (x21_1 : Int),v21 = .int .i64 x21_1∧Aside0 (impl_FindOpposite.l0 kq a0 l1 t312 (t312.length : Int) x21_1 = some (r1,r2))∧Aside0 (kq ≤ k)∧Aside0 (Kd.S (Kd.slice 3 (Kd.int .i64)) 24 w' w.heap.size (fun _=>True) (.slice Ao8 t312.length co8) t312)∧Aside0 (Below w.heap.size w w'))
  case atStart=>exact ⟨(0),RF,H',⟨Nat.le_refl _⟩,⟨KS HO314⟩,⟨BB⟩⟩
  case round =>
   clear H';try clear c1
   try clear c2
   try clear p2
   try clear c4
   try clear c6
   try clear p6
   obtain ⟨x21_1,rfl,HA,HK1,HO_19,HB⟩:=hrel;cases gk with
   | zero=>exact absurd HA.out (by simp [impl_FindOpposite.l0])
   | succ k1 =>
    have H:=HA.out;clear HA;simp only [impl_FindOpposite.l0] at H;by_cases c9 : x21_1 < (t312.length : Int)
    ·rw [if_pos c9] at H;have c9b0:=DT c9;clear c9;replace H:=IC H;obtain ⟨c10,H⟩:=H;have c10b0:=DT c10;clear c10;replace H:=IC H;obtain ⟨c11,H⟩:=H;have c11b0:=DT c11;clear c11;replace H:=IC H;obtain ⟨c12,H⟩:=H;have c12b0:=DT c12;have c12b1 : decide (0 < (rd_L2 t312 x21_1).length) = true:=DT (by omega);clear c12;replace H:=IC H;obtain ⟨c13,H⟩:=H;have c13b0:=DT c13;clear c13;replace H:=IC H;obtain ⟨c14,H⟩:=H;have c14b0:=DT c14;clear c14;replace H:=IC H;obtain ⟨c15,H⟩:=H;have c15b0:=DT c15;have c15b1 : decide (1 < (rd_L2 t312 x21_1).length) = true:=DT (by omega);clear c15;replace H:=IC H;obtain ⟨c16,H⟩:=H;have c16b0:=DT c16;clear c16;replace H:=IC H;obtain ⟨c17,H⟩:=H;have c17b0:=DT c17;clear c17;by_cases c18 : (wrap64 ((rd l1 (rd (rd_L2 t312 x21_1) 0)) + (rd l1 (rd (rd_L2 t312 x21_1) 1)))) = 0
     ·rw [if_pos c18] at H;have c18b0:=QT c18;have c18b1:=bne_eq_false_iff_eq.mpr c18;clear c18;replace H:=EA H;obtain ⟨t322,A19,H⟩:=H;simp only [Option.some.injEq,Prod.mk.injEq] at H;obtain ⟨rfl,rfl⟩:=H;have p315 : 0 ≤ (x21_1 : Int):=OD AS;have q315 : x21_1 < (t312.length : Int):=OD AS;obtain ⟨ad315,A315_0,c315_0,e315,hx315_0,hl315_0,hi315_0⟩:=at_L2 (Kd.S_reads' HO_19.out).2.2 x21_1 p315 q315;cases e315;obtain ⟨ce315,hce315,hMe315,hcc315⟩:=Kd.S_get HO_19.out [] x21_1 p315 (by first|exact q315|exact OD AS|(have e_:=(Kd.S_reads' HO_19.out).1;omega));obtain ⟨ve315_0,rfl,ge315_0⟩:=hMe315;have hv315_0:=hcc315 0 _ rfl;rw [Nat.add_zero,show ((Kd.slice 3 (Kd.int .i64))).sz = 1 from rfl,Nat.mul_one] at hv315_0;replace hv315_0:=Option.some.inj (hv315_0.symm.trans hx315_0);rw [hv315_0] at ge315_0;have HL315_0:=AM (show Kd.R (Kd.int .i64) 3 _ _ _ _ (rd_L2 t312 x21_1) from ge315_0);clear hv315_0 ge315_0;clear hcc315 hce315;have HR315_0:=AM hi315_0;have HC315_0:=AM hl315_0;clear hi315_0 hl315_0;replace p315:=ET p315;replace q315:=ET q315;try go_wp2
      replace HO_19:=AM (Kd.S_drew HO_19.out);replace HL315_0:=AM (Kd.R_drew HL315_0.out);replace HR315_0:=AM (Kd.C_drew HR315_0.out);replace HB:=AM (below_drew1 HB.out);have p316 : 0 ≤ (0 : Int):=(by omega);have q316 : 0 < ((rd_L2 t312 x21_1).length : Int):=OD AS;obtain ⟨ad316,e316,hx316_0⟩:=Kd.at_int (CX HR315_0) 0 p316 q316;cases e316;have qi316 : (0 < (rd_L2 t312 x21_1).length) = True:=ET (by omega)
      (try rw [show ((0 : Int)).toNat = 0 from rfl] at hx316_0)
      (try rw [Addr.add_zero'] at hx316_0);replace p316:=ET p316;replace q316:=ET q316;have p317 : 0 ≤ ((rd (rd_L2 t312 x21_1) 0) : Int):=OD AS;have q317 : (rd (rd_L2 t312 x21_1) 0) < (l1.length : Int):=OD AS;obtain ⟨ad317,e317,hx317_0⟩:=Kd.at_int HR1.out (rd (rd_L2 t312 x21_1) 0) p317 q317;have hw317_0:=hx317_0;cases e317;try (replace hx317_0:=LC hx317_0)
      replace p317:=ET p317;replace q317:=ET q317;have p318 : 0 ≤ (1 : Int):=(by omega);have q318 : 1 < ((rd_L2 t312 x21_1).length : Int):=OD AS;obtain ⟨ad318,e318,hx318_0⟩:=Kd.at_int (CX HR315_0) 1 p318 q318;obtain rfl : ad316 = ad318:=(by injection e318)
      (try simp only [show (1 : Int).toNat = 1 from rfl,Nat.reduceMul,Nat.reduceEqDiff,Go.Addr.add,↓reduceIte] at hx318_0);have qi318 : (1 < (rd_L2 t312 x21_1).length) = True:=ET (by omega)
      (try rw [show ((1 : Int)).toNat = 1 from rfl] at hx318_0);replace p318:=ET p318;replace q318:=ET q318;have p319 : 0 ≤ ((rd (rd_L2 t312 x21_1) 1) : Int):=OD AS;have q319 : (rd (rd_L2 t312 x21_1) 1) < (l1.length : Int):=OD AS;obtain ⟨ad319,e319,hx319_0⟩:=Kd.at_int HR1.out (rd (rd_L2 t312 x21_1) 1) p319 q319;have hw319_0:=hx319_0;obtain rfl : ad317 = ad319:=(by injection e319);try (replace hx319_0:=LC hx319_0)
      replace p319:=ET p319;replace q319:=ET q319;refine PSt (n:=14) (S:=fun w'=>w'.cell? ad316 = some (.int .i64 (rd (rd_L2 t312 x21_1) 0))∧w'.cell? (ad317.add ((rd (rd_L2 t312 x21_1) 0)).toNat) = some (.int .i64 (rd l1 (rd (rd_L2 t312 x21_1) 0)))∧w'.cell? ⟨ad316.block,ad316.off + 1,none⟩ = some (.int .i64 (rd (rd_L2 t312 x21_1) 1))∧w'.cell? (ad317.add ((rd (rd_L2 t312 x21_1) 1)).toNat) = some (.int .i64 (rd l1 (rd (rd_L2 t312 x21_1) 1)))) (ds:=[]) ⟨hx316_0,LC hw317_0,hx318_0,LC hw319_0⟩ (fun hHeld=>?_);refine with_tabW impl_FindOpposite.tab6 impl_FindOpposite.bits6 (fun HT_ HW_=>?_);generalize wr.drew = w20 at HO_19 HL315_0 HR315_0 HB hx316_0 hx317_0 hx318_0 hx319_0 hHeld ⊢;refine PA 0 25 HT_ ?_;refine PA 1 26 HT_ ?_;refine PA 2 27 HT_ ?_;refine PA 6 31 HT_ ?_;refine PA 7 32 HT_ ?_;refine PA 8 33 HT_ ?_;refine PB 3 28 HT_ HW_ hHeld ?_;refine PA 4 29 HT_ ?_;refine PB 5 30 HT_ HW_ hHeld ?_;refine PB 9 34 HT_ HW_ hHeld ?_;refine PA 10 35 HT_ ?_;refine PB 11 36 HT_ HW_ hHeld ?_;refine PA 12 37 HT_ ?_;refine PA 13 38 HT_ ?_;refine done_ (done_of HT_.out (by kernel_rfl)) ?_;try go_wp2
      replace HO_19:=AM (Kd.S_drew HO_19.out);replace HL315_0:=AM (Kd.R_drew HL315_0.out);replace HR315_0:=AM (Kd.C_drew HR315_0.out);replace HB:=AM (below_drew1 HB.out);have p320 : 0 ≤ (0 : Int):=(by omega);have q320 : 0 < ((rd_L2 t312 x21_1).length : Int):=OD AS;obtain ⟨ad320,e320,hx320_0⟩:=Kd.at_int (CX HR315_0) 0 p320 q320;obtain rfl : ad316 = ad320:=(by injection e320);have qi320 : (0 < (rd_L2 t312 x21_1).length) = True:=ET (by omega)
      (try rw [show ((0 : Int)).toNat = 0 from rfl] at hx320_0)
      (try rw [Addr.add_zero'] at hx320_0);replace p320:=ET p320;replace q320:=ET q320;have p321 : 0 ≤ (1 : Int):=(by omega);have q321 : 1 < ((rd_L2 t312 x21_1).length : Int):=OD AS;obtain ⟨ad321,e321,hx321_0⟩:=Kd.at_int (CX HR315_0) 1 p321 q321;obtain rfl : ad316 = ad321:=(by injection e321)
      (try simp only [show (1 : Int).toNat = 1 from rfl,Nat.reduceMul,Nat.reduceEqDiff,Go.Addr.add,↓reduceIte] at hx321_0);have qi321 : (1 < (rd_L2 t312 x21_1).length) = True:=ET (by omega)
      (try rw [show ((1 : Int)).toNat = 1 from rfl] at hx321_0);replace p321:=ET p321;replace q321:=ET q321;refine PSt (n:=9) (S:=fun w'=>w'.cell? ad316 = some (.int .i64 (rd (rd_L2 t312 x21_1) 0))∧w'.cell? ⟨ad316.block,ad316.off + 1,none⟩ = some (.int .i64 (rd (rd_L2 t312 x21_1) 1))) (ds:=[]) ⟨hx320_0,hx321_0⟩ (fun hHeld=>?_);refine with_tabW impl_FindOpposite.tab7 impl_FindOpposite.bits7 (fun HT_ HW_=>?_);generalize w20.drew = w21 at HO_19 HL315_0 HR315_0 HB hx320_0 hx321_0 hHeld ⊢;refine PA 0 39 HT_ ?_;refine PA 1 40 HT_ ?_;refine PA 3 42 HT_ ?_;refine PA 4 43 HT_ ?_;refine PB 2 41 HT_ HW_ hHeld ?_;refine PB 5 44 HT_ HW_ hHeld ?_;refine PC 6 45 HT_ (fun K hK=>?_);refine goes_ Try.func23 (by kernel_rfl) rfl #[.int .i64 (rd (rd_L2 t312 x21_1) 0),.int .i64 (rd (rd_L2 t312 x21_1) 1)] (by rfl) rfl rfl TA ?_;with_reducible refine (impl_sorted.calls (rd (rd_L2 t312 x21_1) 0) (rd (rd_L2 t312 x21_1) 1) t322 _ A19.out).mono ?_
      rintro e w22 ⟨v323,rfl,ho0,hb⟩;have HS0_:=LD hb hHeld.1;have HS1_:=LD hb hHeld.2;refine ⟨_,rfl,?_⟩;replace HO_19:=SO HO_19 ho0 hb;have HO324:=AM (Kd.R_lower (Kd.R_new' ho0 (Kd.R_lt (KR HL315_0))) (BZ BB));replace HL315_0:=RO HL315_0 ho0 hb;replace HR315_0:=AM (Kd.C_below (CX HR315_0) hb);replace HB:=HS hb;try clear hb ho0
      refine hK.out _ _ ⟨HS0_,HS1_⟩ (fun hHeld=>?_);clear hK K;refine norm_ (a':=?_) ?_ ?_;rotate_left
      ·show Act.put _ (some 45) _ = _;simp only [Act.put,List.setIfInBounds_toArray,List.set_cons_zero,List.set_cons_succ,i64_w,i32_w];rfl
      refine PA 7 4 HT_ ?_;refine PA 8 5 HT_ ?_;refine done_ (done_of HT_.out (by kernel_rfl)) ?_;try go_wp2
      go_ret2;exact ⟨_,RE,by (with_reducible repeat (first|apply Kd.R_alloc|apply Kd.R_drewN|apply Kd.R_drew));exact Kd.R_mono HO324.out (fun _ hk=>trivial),BB⟩
     ·rw [if_neg c18] at H;have c18b0:=beq_eq_false_iff_ne.mpr c18;have c18b1:=bne_iff_ne.mpr c18;have H':=AM H;clear H;have p315 : 0 ≤ (x21_1 : Int):=OD AS;have q315 : x21_1 < (t312.length : Int):=OD AS;obtain ⟨ad315,A315_0,c315_0,e315,hx315_0,hl315_0,hi315_0⟩:=at_L2 (Kd.S_reads' HO_19.out).2.2 x21_1 p315 q315;cases e315;obtain ⟨ce315,hce315,hMe315,hcc315⟩:=Kd.S_get HO_19.out [] x21_1 p315 (by first|exact q315|exact OD AS|(have e_:=(Kd.S_reads' HO_19.out).1;omega));obtain ⟨ve315_0,rfl,ge315_0⟩:=hMe315;have hv315_0:=hcc315 0 _ rfl;rw [Nat.add_zero,show ((Kd.slice 3 (Kd.int .i64))).sz = 1 from rfl,Nat.mul_one] at hv315_0;replace hv315_0:=Option.some.inj (hv315_0.symm.trans hx315_0);rw [hv315_0] at ge315_0;have HL315_0:=AM (show Kd.R (Kd.int .i64) 3 _ _ _ _ (rd_L2 t312 x21_1) from ge315_0);clear hv315_0 ge315_0;clear hcc315 hce315;have HR315_0:=AM hi315_0;have HC315_0:=AM hl315_0;clear hi315_0 hl315_0;replace p315:=ET p315;replace q315:=ET q315;try go_wp2
      replace HO_19:=AM (Kd.S_drew HO_19.out);replace HL315_0:=AM (Kd.R_drew HL315_0.out);replace HR315_0:=AM (Kd.C_drew HR315_0.out);replace HB:=AM (below_drew1 HB.out);have p316 : 0 ≤ (0 : Int):=(by omega);have q316 : 0 < ((rd_L2 t312 x21_1).length : Int):=OD AS;obtain ⟨ad316,e316,hx316_0⟩:=Kd.at_int (CX HR315_0) 0 p316 q316;cases e316;have qi316 : (0 < (rd_L2 t312 x21_1).length) = True:=ET (by omega)
      (try rw [show ((0 : Int)).toNat = 0 from rfl] at hx316_0)
      (try rw [Addr.add_zero'] at hx316_0);replace p316:=ET p316;replace q316:=ET q316;have p317 : 0 ≤ ((rd (rd_L2 t312 x21_1) 0) : Int):=OD AS;have q317 : (rd (rd_L2 t312 x21_1) 0) < (l1.length : Int):=OD AS;obtain ⟨ad317,e317,hx317_0⟩:=Kd.at_int HR1.out (rd (rd_L2 t312 x21_1) 0) p317 q317;have hw317_0:=hx317_0;cases e317;try (replace hx317_0:=LC hx317_0)
      replace p317:=ET p317;replace q317:=ET q317;have p318 : 0 ≤ (1 : Int):=(by omega);have q318 : 1 < ((rd_L2 t312 x21_1).length : Int):=OD AS;obtain ⟨ad318,e318,hx318_0⟩:=Kd.at_int (CX HR315_0) 1 p318 q318;obtain rfl : ad316 = ad318:=(by injection e318)
      (try simp only [show (1 : Int).toNat = 1 from rfl,Nat.reduceMul,Nat.reduceEqDiff,Go.Addr.add,↓reduceIte] at hx318_0);have qi318 : (1 < (rd_L2 t312 x21_1).length) = True:=ET (by omega)
      (try rw [show ((1 : Int)).toNat = 1 from rfl] at hx318_0);replace p318:=ET p318;replace q318:=ET q318;have p319 : 0 ≤ ((rd (rd_L2 t312 x21_1) 1) : Int):=OD AS;have q319 : (rd (rd_L2 t312 x21_1) 1) < (l1.length : Int):=OD AS;obtain ⟨ad319,e319,hx319_0⟩:=Kd.at_int HR1.out (rd (rd_L2 t312 x21_1) 1) p319 q319;have hw319_0:=hx319_0;obtain rfl : ad317 = ad319:=(by injection e319);try (replace hx319_0:=LC hx319_0)
      replace p319:=ET p319;replace q319:=ET q319;refine PSt (n:=14) (S:=fun w'=>w'.cell? ad316 = some (.int .i64 (rd (rd_L2 t312 x21_1) 0))∧w'.cell? (ad317.add ((rd (rd_L2 t312 x21_1) 0)).toNat) = some (.int .i64 (rd l1 (rd (rd_L2 t312 x21_1) 0)))∧w'.cell? ⟨ad316.block,ad316.off + 1,none⟩ = some (.int .i64 (rd (rd_L2 t312 x21_1) 1))∧w'.cell? (ad317.add ((rd (rd_L2 t312 x21_1) 1)).toNat) = some (.int .i64 (rd l1 (rd (rd_L2 t312 x21_1) 1)))) (ds:=[]) ⟨hx316_0,LC hw317_0,hx318_0,LC hw319_0⟩ (fun hHeld=>?_);refine with_tabW impl_FindOpposite.tab6 impl_FindOpposite.bits6 (fun HT_ HW_=>?_);generalize wr.drew = w23 at HO_19 HL315_0 HR315_0 HB hx316_0 hx317_0 hx318_0 hx319_0 hHeld ⊢;refine PA 0 25 HT_ ?_;refine PA 1 26 HT_ ?_;refine PA 2 27 HT_ ?_;refine PA 6 31 HT_ ?_;refine PA 7 32 HT_ ?_;refine PA 8 33 HT_ ?_;refine PB 3 28 HT_ HW_ hHeld ?_;refine PA 4 29 HT_ ?_;refine PB 5 30 HT_ HW_ hHeld ?_;refine PB 9 34 HT_ HW_ hHeld ?_;refine PA 10 35 HT_ ?_;refine PB 11 36 HT_ HW_ hHeld ?_;refine PA 12 37 HT_ ?_;refine PA 13 38 HT_ ?_;refine done_ (done_of HT_.out (by kernel_rfl)) ?_;try go_wp2
      go_roundg k1
      case measure=>have:=HK1.out;omega
      case rel=>exact ⟨(wrap64 (x21_1 + 1)),RF,H',⟨by have:=HK1.out;omega⟩,⟨KS HO_19⟩,⟨BB⟩⟩
    ·rw [if_neg c9] at H;have c9b0:=DF c9;try (have c9bl:=c9b0;rw [hl315_0] at c9bl)
     clear c9;replace H:=EA H;obtain ⟨t325,A24,H⟩:=H;replace H:=EA H;obtain ⟨t328,A25,H⟩:=H;have H':=AM H;clear H;go_wp2_with (first|(refine GC 24 ?_;refine GM (some 49) Try.func24 (impl_square_cells.calls k1 a0 t325 _ A24.out) ?_;rintro e w26 ⟨v326,rfl,ho0,hb⟩;refine ⟨_,rfl,?_⟩;have HO327:=AM (Kd.S_lower (Kd.S_new' ho0 (Kd.S_lt (KS HO_19))) (BZ BB));replace HO_19:=AM (Kd.S_elder' (KS HO_19) (Kd.S_base ho0) hb);replace HB:=HS hb;try clear hb ho0)|(refine GC 25 ?_;refine GM (some 52) Try.func25 (impl_squareDoors.calls k1 a0 _ _ l1 t328 _ (CW (Kd.C_below HR1.out HB.out)) HC1.out A25.out) ?_;rintro e w27 ⟨v329,rfl,ho0,hb⟩;refine ⟨_,rfl,?_⟩;have HO330:=AM (Kd.S_lower (Kd.S_new' (Kd.S_new' ho0 (Kd.S_lt (KS HO_19))) (Kd.S_lt (KS HO327))) (BZ BB));replace HO_19:=AM (Kd.S_elder' (KS HO_19) (Kd.S_base ho0) hb);replace HO327:=AM (Kd.S_elder' (KS HO327) (Kd.S_base ho0) hb);replace HB:=HS hb;try clear hb ho0;obtain ⟨Ao28,co28,eo28⟩:=Kd.S_slice HO330.out;subst eo28));go_loopg [54] k1 (fun kq v54 w'=>∃ (x54_2 : Int),v54 = .int .i64 x54_2∧Aside0 (impl_FindOpposite.l1 kq l1 t325 t328 (t328.length : Int) x54_2 = some (r1,r2))∧Aside0 (kq ≤ k1)∧Aside0 (Kd.S (Kd.slice 3 (Kd.int .i64)) 24 w' w.heap.size (fun k_=>some k_≠((.slice Ao28 t328.length co28) : Value).ownBlock) v326 t325)∧Aside0 (Kd.S (Kd.slice 3 (Kd.int .i64)) 24 w' w.heap.size (fun k_=>some k_≠(v326 : Value).ownBlock) (.slice Ao28 t328.length co28) t328)∧Aside0 (Below w.heap.size w w'))
     case atStart=>exact ⟨(0),RF,H',⟨Nat.le_refl _⟩,⟨by (with_reducible repeat (first|apply Kd.S_alloc|apply Kd.S_drewN|apply Kd.S_drew));exact Kd.S_mono HO327.out (fun _ hk=>hk.2)⟩,⟨by (with_reducible repeat (first|apply Kd.S_alloc|apply Kd.S_drewN|apply Kd.S_drew));exact Kd.S_mono HO330.out (fun _ hk=>hk.2)⟩,⟨BB⟩⟩
     case round =>
      clear H';try clear c1
      try clear c2
      try clear p2
      try clear c3
      try clear p3
      try clear q3
      try clear hx3
      try clear qi3
      try clear p6
      try clear c9
      try clear c9b0
      try clear c10
      try clear c10b0
      try clear c11
      try clear c11b0
      try clear c12
      try clear c12b0
      try clear c12b1
      try clear c13
      try clear c13b0
      try clear c14
      try clear c14b0
      try clear c15
      try clear c15b0
      try clear c15b1
      try clear c16
      try clear c16b0
      try clear c17
      try clear c17b0
      try clear c18
      try clear c18b0
      try clear c18b1
      try clear c23
      try clear c24
      try clear c25
      try clear hx315_0
      try clear hx316_0
      try clear hx317_0
      try clear hx318_0
      try clear hx319_0
      try clear hx320_0
      try clear hx321_0
      try clear p315
      try clear p316
      try clear p317
      try clear p318
      try clear p319
      try clear p320
      try clear p321
      try clear q315
      try clear q316
      try clear q317
      try clear q318
      try clear q319
      try clear q320
      try clear q321
      obtain ⟨x54_2,rfl,HA,HK2,HO_8,HO_52,HB⟩:=hrel;cases gk with
      | zero=>exact absurd HA.out (by simp [impl_FindOpposite.l1])
      | succ k2 =>
       have H:=HA.out;clear HA;simp only [impl_FindOpposite.l1] at H;by_cases c29 : x54_2 < (t328.length : Int)
       ·rw [if_pos c29] at H;have c29b0:=DT c29;clear c29;replace H:=IC H;obtain ⟨c30,H⟩:=H;have c30b0:=DT c30;clear c30;replace H:=IC H;obtain ⟨c31,H⟩:=H;have c31b0:=DT c31;clear c31;replace H:=IC H;obtain ⟨c32,H⟩:=H;have c32b0:=DT c32;have c32b1 : decide (0 < (rd_L2 t328 x54_2).length) = true:=DT (by omega);clear c32;replace H:=IC H;obtain ⟨c33,H⟩:=H;have c33b0:=DT c33;have c33b1 : decide (1 < (rd_L2 t328 x54_2).length) = true:=DT (by omega);clear c33;replace H:=EA H;obtain ⟨⟨t334,t335⟩,A34,H⟩:=H;try dsimp only at H
        by_cases c35 : t335 ≥ 0
        ·rw [if_pos c35] at H;have c35b0:=DT c35;clear c35;replace H:=IC H;obtain ⟨c36,H⟩:=H;have c36b0:=DT c36;clear c36;replace H:=IC H;obtain ⟨c37,H⟩:=H;have c37b0:=DT c37;clear c37;replace H:=EA H;obtain ⟨t339,A38,H⟩:=H;simp only [Option.some.injEq,Prod.mk.injEq] at H;obtain ⟨rfl,rfl⟩:=H;have p331 : 0 ≤ (x54_2 : Int):=OD AS;have q331 : x54_2 < (t328.length : Int):=OD AS;obtain ⟨ad331,A331_0,c331_0,e331,hx331_0,hl331_0,hi331_0⟩:=at_L2 (Kd.S_reads' HO_52.out).2.2 x54_2 p331 q331;cases e331;obtain ⟨ce331,hce331,hMe331,hcc331⟩:=Kd.S_get HO_52.out [] x54_2 p331 (by first|exact q331|exact OD AS|(have e_:=(Kd.S_reads' HO_52.out).1;omega));obtain ⟨ve331_0,rfl,ge331_0⟩:=hMe331;have hv331_0:=hcc331 0 _ rfl;rw [Nat.add_zero,show ((Kd.slice 3 (Kd.int .i64))).sz = 1 from rfl,Nat.mul_one] at hv331_0;replace hv331_0:=Option.some.inj (hv331_0.symm.trans hx331_0);rw [hv331_0] at ge331_0;have HL331_0:=AM (show Kd.R (Kd.int .i64) 3 _ _ _ _ (rd_L2 t328 x54_2) from ge331_0);clear hv331_0 ge331_0;clear hcc331 hce331;have HR331_0:=AM hi331_0;have HC331_0:=AM hl331_0;clear hi331_0 hl331_0;replace p331:=ET p331;replace q331:=ET q331;try go_wp2
         replace HO_8:=AM (Kd.S_drew HO_8.out);replace HO_52:=AM (Kd.S_drew HO_52.out);replace HL331_0:=AM (Kd.R_drew HL331_0.out);replace HR331_0:=AM (Kd.C_drew HR331_0.out);replace HB:=AM (below_drew1 HB.out);have p332 : 0 ≤ (0 : Int):=(by omega);have q332 : 0 < ((rd_L2 t328 x54_2).length : Int):=OD AS;obtain ⟨ad332,e332,hx332_0⟩:=Kd.at_int (CX HR331_0) 0 p332 q332;cases e332;have qi332 : (0 < (rd_L2 t328 x54_2).length) = True:=ET (by omega)
         (try rw [show ((0 : Int)).toNat = 0 from rfl] at hx332_0)
         (try rw [Addr.add_zero'] at hx332_0);replace p332:=ET p332;replace q332:=ET q332;have p333 : 0 ≤ (1 : Int):=(by omega);have q333 : 1 < ((rd_L2 t328 x54_2).length : Int):=OD AS;obtain ⟨ad333,e333,hx333_0⟩:=Kd.at_int (CX HR331_0) 1 p333 q333;obtain rfl : ad332 = ad333:=(by injection e333)
         (try simp only [show (1 : Int).toNat = 1 from rfl,Nat.reduceMul,Nat.reduceEqDiff,Go.Addr.add,↓reduceIte] at hx333_0);have qi333 : (1 < (rd_L2 t328 x54_2).length) = True:=ET (by omega)
         (try rw [show ((1 : Int)).toNat = 1 from rfl] at hx333_0);replace p333:=ET p333;replace q333:=ET q333;obtain ⟨Ao40,co40,eo40⟩:=Kd.S_slice HO_8.out
         (first|subst eo40|(injection eo40 with f1_ f2_ f3_;have f4_:=f1_.symm;have f5_:=f3_.symm;clear f1_ f2_ f3_;subst f4_;subst f5_));refine PSt (n:=14) (S:=fun w'=>w'.cell? ad332 = some (.int .i64 (rd (rd_L2 t328 x54_2) 0))∧w'.cell? ⟨ad332.block,ad332.off + 1,none⟩ = some (.int .i64 (rd (rd_L2 t328 x54_2) 1))) (ds:=[]) ⟨hx332_0,hx333_0⟩ (fun hHeld=>?_);refine with_tabW impl_FindOpposite.tab13 impl_FindOpposite.bits13 (fun HT_ HW_=>?_);generalize wr.drew = w39 at HO_8 HO_52 HL331_0 HR331_0 HB hx332_0 hx333_0 hHeld ⊢;refine PA 0 59 HT_ ?_;refine PA 1 60 HT_ ?_;refine PA 2 61 HT_ ?_;refine PA 3 62 HT_ ?_;refine PA 5 64 HT_ ?_;refine PA 6 65 HT_ ?_;refine PB 4 63 HT_ HW_ hHeld ?_;refine PB 7 66 HT_ HW_ hHeld ?_;refine PC 8 67 HT_ (fun K hK=>?_);refine goes_ Try.func26 (by kernel_rfl) rfl #[.slice A1 l1.length c1,.slice Ao40 t325.length co40,.int .i64 (rd (rd_L2 t328 x54_2) 0),.int .i64 (rd (rd_L2 t328 x54_2) 1)] (by rfl) rfl rfl TA ?_;with_reducible refine (impl_squareWalk.calls k2 _ _ l1 _ _ t325 (rd (rd_L2 t328 x54_2) 0) (rd (rd_L2 t328 x54_2) 1) t334 t335 _ ?side1 ?side2 ?side3 ?side4 A34.out).mono ?_
         (case side1=>exact CW (Kd.C_below HR1.out HB.out))
         (case side2=>exact HC1.out)
         (case side3=>exact CW (Kd.S_reads' HO_8.out).2.2)
         (case side4=>exact (Kd.S_reads' HO_8.out).2.1);rintro e w41 ⟨v336,rfl,ho0,hb⟩;have HS0_:=LD hb hHeld.1;have HS1_:=LD hb hHeld.2;refine ⟨_,rfl,?_⟩;replace HO_8:=SO HO_8 ho0 hb;replace HO_52:=SO HO_52 ho0 hb;have HO337:=AM (Kd.R_lower (Kd.R_new' ho0 (Kd.R_lt (KR HL331_0))) (BZ BB));replace HL331_0:=RO HL331_0 ho0 hb;replace HR331_0:=AM (Kd.C_below (CX HR331_0) hb);replace HB:=HS hb;try clear hb ho0
         refine hK.out _ _ ⟨HS0_,HS1_⟩ (fun hHeld=>?_);clear hK K;refine norm_ (a':=?_) ?_ ?_;rotate_left
         ·show Act.put _ (some 67) _ = _;simp only [Act.put,List.setIfInBounds_toArray,List.set_cons_zero,List.set_cons_succ,i64_w,i32_w];rfl
         refine PA 9 58 HT_ ?_;refine PA 10 68 HT_ ?_;refine PA 11 69 HT_ ?_;refine PA 12 11 HT_ ?_;refine PA 13 12 HT_ ?_;refine done_ (done_of HT_.out (by kernel_rfl)) ?_;have p338 : 0 ≤ (t335 : Int):=OD AS;have q338 : t335 < (t325.length : Int):=OD AS;obtain ⟨ad338,A338_0,c338_0,e338,hx338_0,hl338_0,hi338_0⟩:=at_L2 (Kd.S_reads' HO_8.out).2.2 t335 p338 q338;cases e338;obtain ⟨ce338,hce338,hMe338,hcc338⟩:=Kd.S_get HO_8.out [] t335 p338 (by first|exact q338|exact OD AS|(have e_:=(Kd.S_reads' HO_8.out).1;omega));obtain ⟨ve338_0,rfl,ge338_0⟩:=hMe338;have hv338_0:=hcc338 0 _ rfl;rw [Nat.add_zero,show ((Kd.slice 3 (Kd.int .i64))).sz = 1 from rfl,Nat.mul_one] at hv338_0;replace hv338_0:=Option.some.inj (hv338_0.symm.trans hx338_0);rw [hv338_0] at ge338_0;have HL338_0:=AM (show Kd.R (Kd.int .i64) 3 _ _ _ _ (rd_L2 t325 t335) from ge338_0);clear hv338_0 ge338_0;clear hcc338 hce338;have HR338_0:=AM hi338_0;have HC338_0:=AM hl338_0;clear hi338_0 hl338_0;replace p338:=ET p338;replace q338:=ET q338;try go_wp2_with (first|(refine GC 27 ?_;refine GM (some 77) Try.func27 (impl_firstEdge.calls k2 _ _ l1 _ _ (rd_L2 t325 t335) t339 _ (CW (Kd.C_below HR1.out HB.out)) HC1.out (CX HR338_0) HC338_0.out A38.out) ?_;rintro e w42 ⟨v340,rfl,ho0,hb⟩;refine ⟨_,rfl,?_⟩;replace HO_8:=SO HO_8 ho0 hb;replace HO_52:=SO HO_52 ho0 hb;have HO341:=AM (Kd.R_lower (Kd.R_new' (Kd.R_new' (Kd.R_new' ho0 (Kd.R_lt (KR HL331_0))) (Kd.R_lt (KR HO337))) (Kd.R_lt (KR HL338_0))) (BZ BB));replace HL331_0:=RO HL331_0 ho0 hb;replace HO337:=RO HO337 ho0 hb;replace HL338_0:=RO HL338_0 ho0 hb;replace HR331_0:=AM (Kd.C_below (CX HR331_0) hb);replace HR338_0:=AM (Kd.C_below (CX HR338_0) hb);replace HB:=HS hb;try clear hb ho0))
         go_ret2;exact ⟨_,RE,by (with_reducible repeat (first|apply Kd.R_alloc|apply Kd.R_drewN|apply Kd.R_drew));exact Kd.R_mono HO341.out (fun _ hk=>trivial),BB⟩
        ·rw [if_neg c35] at H;have c35b0:=DF c35;clear c35;have H':=AM H;clear H;have p331 : 0 ≤ (x54_2 : Int):=OD AS;have q331 : x54_2 < (t328.length : Int):=OD AS;obtain ⟨ad331,A331_0,c331_0,e331,hx331_0,hl331_0,hi331_0⟩:=at_L2 (Kd.S_reads' HO_52.out).2.2 x54_2 p331 q331;cases e331;obtain ⟨ce331,hce331,hMe331,hcc331⟩:=Kd.S_get HO_52.out [] x54_2 p331 (by first|exact q331|exact OD AS|(have e_:=(Kd.S_reads' HO_52.out).1;omega));obtain ⟨ve331_0,rfl,ge331_0⟩:=hMe331;have hv331_0:=hcc331 0 _ rfl;rw [Nat.add_zero,show ((Kd.slice 3 (Kd.int .i64))).sz = 1 from rfl,Nat.mul_one] at hv331_0;replace hv331_0:=Option.some.inj (hv331_0.symm.trans hx331_0);rw [hv331_0] at ge331_0;have HL331_0:=AM (show Kd.R (Kd.int .i64) 3 _ _ _ _ (rd_L2 t328 x54_2) from ge331_0);clear hv331_0 ge331_0;clear hcc331 hce331;have HR331_0:=AM hi331_0;have HC331_0:=AM hl331_0;clear hi331_0 hl331_0;replace p331:=ET p331;replace q331:=ET q331;try go_wp2
         replace HO_8:=AM (Kd.S_drew HO_8.out);replace HO_52:=AM (Kd.S_drew HO_52.out);replace HL331_0:=AM (Kd.R_drew HL331_0.out);replace HR331_0:=AM (Kd.C_drew HR331_0.out);replace HB:=AM (below_drew1 HB.out);have p332 : 0 ≤ (0 : Int):=(by omega);have q332 : 0 < ((rd_L2 t328 x54_2).length : Int):=OD AS;obtain ⟨ad332,e332,hx332_0⟩:=Kd.at_int (CX HR331_0) 0 p332 q332;cases e332;have qi332 : (0 < (rd_L2 t328 x54_2).length) = True:=ET (by omega)
         (try rw [show ((0 : Int)).toNat = 0 from rfl] at hx332_0)
         (try rw [Addr.add_zero'] at hx332_0);replace p332:=ET p332;replace q332:=ET q332;have p333 : 0 ≤ (1 : Int):=(by omega);have q333 : 1 < ((rd_L2 t328 x54_2).length : Int):=OD AS;obtain ⟨ad333,e333,hx333_0⟩:=Kd.at_int (CX HR331_0) 1 p333 q333;obtain rfl : ad332 = ad333:=(by injection e333)
         (try simp only [show (1 : Int).toNat = 1 from rfl,Nat.reduceMul,Nat.reduceEqDiff,Go.Addr.add,↓reduceIte] at hx333_0);have qi333 : (1 < (rd_L2 t328 x54_2).length) = True:=ET (by omega)
         (try rw [show ((1 : Int)).toNat = 1 from rfl] at hx333_0);replace p333:=ET p333;replace q333:=ET q333;obtain ⟨Ao44,co44,eo44⟩:=Kd.S_slice HO_8.out
         (first|subst eo44|(injection eo44 with f1_ f2_ f3_;have f4_:=f1_.symm;have f5_:=f3_.symm;clear f1_ f2_ f3_;subst f4_;subst f5_));refine PSt (n:=14) (S:=fun w'=>w'.cell? ad332 = some (.int .i64 (rd (rd_L2 t328 x54_2) 0))∧w'.cell? ⟨ad332.block,ad332.off + 1,none⟩ = some (.int .i64 (rd (rd_L2 t328 x54_2) 1))) (ds:=[]) ⟨hx332_0,hx333_0⟩ (fun hHeld=>?_);refine with_tabW impl_FindOpposite.tab13 impl_FindOpposite.bits13 (fun HT_ HW_=>?_);generalize wr.drew = w43 at HO_8 HO_52 HL331_0 HR331_0 HB hx332_0 hx333_0 hHeld ⊢;refine PA 0 59 HT_ ?_;refine PA 1 60 HT_ ?_;refine PA 2 61 HT_ ?_;refine PA 3 62 HT_ ?_;refine PA 5 64 HT_ ?_;refine PA 6 65 HT_ ?_;refine PB 4 63 HT_ HW_ hHeld ?_;refine PB 7 66 HT_ HW_ hHeld ?_;refine PC 8 67 HT_ (fun K hK=>?_);refine goes_ Try.func26 (by kernel_rfl) rfl #[.slice A1 l1.length c1,.slice Ao44 t325.length co44,.int .i64 (rd (rd_L2 t328 x54_2) 0),.int .i64 (rd (rd_L2 t328 x54_2) 1)] (by rfl) rfl rfl TA ?_;with_reducible refine (impl_squareWalk.calls k2 _ _ l1 _ _ t325 (rd (rd_L2 t328 x54_2) 0) (rd (rd_L2 t328 x54_2) 1) t334 t335 _ ?side1 ?side2 ?side3 ?side4 A34.out).mono ?_
         (case side1=>exact CW (Kd.C_below HR1.out HB.out))
         (case side2=>exact HC1.out)
         (case side3=>exact CW (Kd.S_reads' HO_8.out).2.2)
         (case side4=>exact (Kd.S_reads' HO_8.out).2.1);rintro e w45 ⟨v336,rfl,ho0,hb⟩;have HS0_:=LD hb hHeld.1;have HS1_:=LD hb hHeld.2;refine ⟨_,rfl,?_⟩;replace HO_8:=SO HO_8 ho0 hb;replace HO_52:=SO HO_52 ho0 hb;have HO337:=AM (Kd.R_lower (Kd.R_new' ho0 (Kd.R_lt (KR HL331_0))) (BZ BB));replace HL331_0:=RO HL331_0 ho0 hb;replace HR331_0:=AM (Kd.C_below (CX HR331_0) hb);replace HB:=HS hb;try clear hb ho0
         refine hK.out _ _ ⟨HS0_,HS1_⟩ (fun hHeld=>?_);clear hK K;refine norm_ (a':=?_) ?_ ?_;rotate_left
         ·show Act.put _ (some 67) _ = _;simp only [Act.put,List.setIfInBounds_toArray,List.set_cons_zero,List.set_cons_succ,i64_w,i32_w];rfl
         refine PA 9 58 HT_ ?_;refine PA 10 68 HT_ ?_;refine PA 11 69 HT_ ?_;refine PA 12 11 HT_ ?_;refine PA 13 12 HT_ ?_;refine done_ (done_of HT_.out (by kernel_rfl)) ?_;try go_wp2
         go_roundg k2
         case measure=>have:=HK1.out;have:=HK2.out;omega
         case rel=>exact ⟨(wrap64 (x54_2 + 1)),RF,H',⟨by have:=HK1.out;have:=HK2.out;omega⟩,⟨by (with_reducible repeat (first|apply Kd.S_alloc|apply Kd.S_drewN|apply Kd.S_drew));exact Kd.S_mono HO_8.out (fun _ hk=>hk.1)⟩,⟨by (with_reducible repeat (first|apply Kd.S_alloc|apply Kd.S_drewN|apply Kd.S_drew));exact Kd.S_mono HO_52.out (fun _ hk=>hk.1)⟩,⟨BB⟩⟩
       ·rw [if_neg c29] at H;have c29b0:=DF c29;try (have c29bl:=c29b0;rw [hl315_0] at c29bl)
        clear c29;simp only [Option.some.injEq,Prod.mk.injEq] at H;obtain ⟨rfl,rfl⟩:=H;go_wp2;go_ret2;exact ⟨_,RE,by first|exact Kd.R_nil _ _ _ _ _|exact Kd.N_nil _ _ _ _ _|exact Kd.V_nil _ _ _ _ _|exact Kd.Q_nil _ _ _ _ _|exact Kd.S_nil _ _ _ _ _,BB⟩
 ·replace c4:=NF c4;subst c4;replace H:=IN H;simp only [Option.some.injEq,Prod.mk.injEq] at H;obtain ⟨rfl,rfl⟩:=H;go_enter Try.func6,Try.ntmps6;go_wp2_with (first|(refine GC 21 ?_;refine GM (some 15) Try.func21 (impl_areOpposite.calls k a0 _ _ l1 false _ (CW HR1.out) HC1.out A3.out) ?_;rintro e w46 ⟨rfl,hb⟩;refine ⟨_,rfl,?_⟩;replace HB:=HS hb;try clear hb));go_ret2;exact ⟨_,RE,by first|exact Kd.R_nil _ _ _ _ _|exact Kd.N_nil _ _ _ _ _|exact Kd.V_nil _ _ _ _ _|exact Kd.Q_nil _ _ _ _ _|exact Kd.S_nil _ _ _ _ _,BB⟩

end Go.Proofs.Ytlolkkfpfjlhmaa.PFnOppositeEdgesFound
