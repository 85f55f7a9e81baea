-- Written by a program of this session (wip/tools/pp.sh) out of the translation; Lean checks it.
import Derived.Test.YtlolkkfpfjlhmaaPFnOppositeEdgesFoundx13
namespace Go.Proofs.Ytlolkkfpfjlhmaa.PFnOppositeEdgesFound
open Go.RowKit Go.Proofs.YtlolkkfpfjlhmaaOwn Go.Proofs.YtlolkkfpfjlhmaaW.PrintWords Go.Proofs.YtlolkkfpfjlhmaaW.PrintLast Go.Proofs.YtlolkkfpfjlhmaaW.PrintMore
attribute [local go_sem] max2_int min2_int max_two min_two max_three min_three max_four min_four   -- for this text's walks alone
set_option linter.unusedVariables false
set_option maxHeartbeats 8000000
set_option maxRecDepth 100000
set_option linter.unusedSimpArgs false

/-! ### spec_FindOpposite: function 7 -/
mutual
def spec_FindOpposite.j0 : Nat→Int→List Int→Bool→Option (List Int × Bool)
 | 0,_,_,_=>none
 | k + 1,x0,x1,x22=>if x22 = true then (some (([] : List Int),false)) else ((spec_opBorder.f k x0).bind fun t452=>(spec_FindOpposite.l0 k x0 x1 t452 t452 (t452.length : Int) 0))
def spec_FindOpposite.l0 : Nat→Int→List Int→List Int→List Int→Int→Int→Option (List Int × Bool)
 | 0,_,_,_,_,_,_=>none
 | k + 1,x0,x1,x6,x25,x26,x27=>if x27 < x26 then (if 0 ≤ x27 then (if x27 < (x25.length : Int) then (if (x6.length : Int) = 0 then (none) else (if 0 ≤ (Int.tmod (wrap64 (x27 + 1)) (x6.length : Int)) then (if (Int.tmod (wrap64 (x27 + 1)) (x6.length : Int)) < (x6.length : Int) then (if 0 ≤ (rd x25 x27) then (if (rd x25 x27) < (x1.length : Int) then (if 0 ≤ (rd x6 (Int.tmod (wrap64 (x27 + 1)) (x6.length : Int))) then (if (rd x6 (Int.tmod (wrap64 (x27 + 1)) (x6.length : Int))) < (x1.length : Int) then (if (wrap64 ((rd x1 (rd x25 x27)) + (rd x1 (rd x6 (Int.tmod (wrap64 (x27 + 1)) (x6.length : Int)))))) = 0 then ((spec_doInner.f (rd x25 x27) (rd x6 (Int.tmod (wrap64 (x27 + 1)) (x6.length : Int)))).bind fun t459=>(some (t459,true))) else (spec_FindOpposite.l0 k x0 x1 x6 x25 x26 (wrap64 (x27 + 1)))) else (none)) else (none)) else (none)) else (none)) else (none)) else (none))) else (none)) else (none)) else ((spec_opDoors.f k x0 x1).bind fun t462=>(spec_FindOpposite.l1 k x0 x1 t462 (t462.length : Int) 0))
def spec_FindOpposite.l1 : Nat→Int→List Int→List (List Int)→Int→Int→Option (List Int × Bool)
 | 0,_,_,_,_,_=>none
 | k + 1,x0,x1,x56,x57,x58=>if x58 < x57 then (if 0 ≤ x58 then (if x58 < (x56.length : Int) then (if 0 < ((rd_L2 x56 x58).length : Int) then (if 1 < ((rd_L2 x56 x58).length : Int) then ((spec_doInner.f (rd (rd_L2 x56 x58) 0) (rd (rd_L2 x56 x58) 1)).bind fun t468=>((spec_opWalk.f k x0 x1 t468).bind fun bt471=>(if (bt471.2.length : Int) > 0 then (some (bt471.2,true)) else (spec_FindOpposite.l1 k x0 x1 x56 x57 (wrap64 (x58 + 1)))))) else (none)) else (none)) else (none)) else (none)) else (some (([] : List Int),false))
end
def spec_FindOpposite.f (k : Nat) (a0 : Int) (l1 : List Int) : Option (List Int × Bool):=(spec_opReach.f a0).bind fun t450=>(if t450 = true then ((spec_opIs.f k a0 l1).bind fun t451=>(spec_FindOpposite.j0 k a0 l1 (!t451))) else (spec_FindOpposite.j0 k a0 l1 true))
theorem spec_FindOpposite.mono_l : ∀ k,(∀ y0 y1 y2,LeO (spec_FindOpposite.j0 k y0 y1 y2) (spec_FindOpposite.j0 (k + 1) y0 y1 y2))∧(∀ y0 y1 y2 y3 y4 y5,LeO (spec_FindOpposite.l0 k y0 y1 y2 y3 y4 y5) (spec_FindOpposite.l0 (k + 1) y0 y1 y2 y3 y4 y5))∧(∀ y0 y1 y2 y3 y4,LeO (spec_FindOpposite.l1 k y0 y1 y2 y3 y4) (spec_FindOpposite.l1 (k + 1) y0 y1 y2 y3 y4))
 | 0=>⟨fun _ _ _=>LZ,fun _ _ _ _ _ _=>LZ,fun _ _ _ _ _=>LZ⟩
 | k + 1=>by
  obtain ⟨ih0,ih1,ih2⟩:=spec_FindOpposite.mono_l k
  have m0:=@spec_opBorder.mono
  have m1:=@spec_opDoors.mono
  have m2:=@spec_opIs.mono
  have m3:=@spec_opWalk.mono
  refine ⟨?_,?_,?_⟩ <;> intros
  all_goals (first|unfold spec_FindOpposite.j0|unfold spec_FindOpposite.l0|unfold spec_FindOpposite.l1)
  all_goals exact MO
theorem spec_FindOpposite.mono : ∀ a0 a1 k,LeO (spec_FindOpposite.f k a0 a1) (spec_FindOpposite.f (k + 1) a0 a1):=by
 intro a0 a1 k;obtain ⟨ih0,ih1,ih2⟩:=spec_FindOpposite.mono_l k;unfold spec_FindOpposite.f
 have m0:=@spec_opBorder.mono
 have m1:=@spec_opDoors.mono
 have m2:=@spec_opIs.mono
 have m3:=@spec_opWalk.mono
 exact MO
def spec_FindOpposite.T8 : Bool × List (List Nat × List Nat):=(true,[([],[]),([],[]),([0,1],[0,1]),([2],[2]),([],[]),([],[]),([4,5],[4,5]),([6],[6]),([3,7],[3,7]),([8],[8])])
def spec_FindOpposite.B8 : List Nat:=[0,0,3,7,0,0,48,112,255,511]
theorem spec_FindOpposite.tab8 : rtab .any (opsOf Try.f7 8) = spec_FindOpposite.T8:=by kernel_rfl
theorem spec_FindOpposite.bits8 : waitsOk spec_FindOpposite.T8.2 spec_FindOpposite.B8 = true:=by kernel_rfl
def spec_FindOpposite.T14 : Bool × List (List Nat × List Nat):=(true,[([],[]),([],[]),([],[]),([2],[2]),([3],[3]),([],[]),([5],[5]),([6],[6]),([4,7],[4,7]),([0,1,8,8],[0,1,8]),([9],[9]),([10],[10]),([10],[10]),([11,9,0,1,2,3,4,5,6,7,8,9,10,11],[11]),([12,13,0,1,2,3,4,5,6,7,8,9,10,11,12,13],[12])])
def spec_FindOpposite.B14 : List Nat:=[0,0,0,4,12,0,32,96,252,511,1023,2047,2047,4095,16383]
theorem spec_FindOpposite.tab14 : rtab .any (opsOf Try.f7 14) = spec_FindOpposite.T14:=by kernel_rfl
theorem spec_FindOpposite.bits14 : waitsOk spec_FindOpposite.T14.2 spec_FindOpposite.B14 = true:=by kernel_rfl
theorem spec_FindOpposite.calls (k : Nat) (a0 : Int) (A1 : Option Addr) (c1 : Nat) (l1 : List Int) (r1 : List Int) (r2 : Bool) (w : World) (hr1 : Kd.C (Kd.int .i64) w A1 l1.length l1) (hc1 : l1.length ≤ c1) (h : spec_FindOpposite.f k a0 l1 = some (r1,r2)) :
  Calls Try.prog 7 #[.int .i64 a0,.slice A1 l1.length c1] w fun e w'=>∃ v0_ : Value,e = .returned (.tuple #[v0_,.bool r2])∧Kd.R (Kd.int .i64) 3 w' w.heap.size (fun _=>True) v0_ r1∧Below w.heap.size w w':=by
 have HR1:=AM hr1;have HC1:=AM hc1;clear hr1 hc1;have HB:=HRf w;have H : ((spec_opReach.f a0).bind fun t450=>(if t450 = true then ((spec_opIs.f k a0 l1).bind fun t451=>(spec_FindOpposite.j0 k a0 l1 (!t451))) else (spec_FindOpposite.j0 k a0 l1 true))) = some (r1,r2):=h;clear h;have HC3:=AM H;clear H;go_enter Try.func7,Try.ntmps7;go_upto_region 1 with (fail)
 go_cut [22] (fun v22 wc=>∃ (kq : Nat) (x22_2 : Bool),v22 = .bool x22_2∧Aside0 (spec_FindOpposite.j0 kq a0 l1 x22_2 = some (r1,r2))∧Aside0 (kq ≤ k)∧Aside0 (Below w.heap.size w wc))
 case first =>
  have H:=HC3.out;clear HC3;replace H:=EA H;obtain ⟨t450,A4,H⟩:=H;by_cases c5 : t450 = true
  ·subst c5;replace H:=IP H;replace H:=EA H;obtain ⟨t451,A6,H⟩:=H;have H':=AM H;clear H;go_wp2_with (first|(refine GC 28 ?_;refine GM (some 15) Try.func28 (spec_opReach.calls a0 true _ A4.out) ?_;rintro e w' ⟨rfl,⟨nd,rfl⟩⟩;refine ⟨_,rfl,?_⟩)|(go_at_call 29;(with_reducible refine (spec_opIs.calls k a0 _ _ l1 t451 _ (CW (Kd.C_below HR1.out BB)) HC1.out A6.out).mono ?_);rintro e w7 ⟨rfl,hb⟩;replace HB:=HS hb;try clear hb));go_meet
   case rel=>exact ⟨_,(!t451),RF,H',⟨by first|omega|exact Nat.le_refl _⟩,⟨BB⟩⟩
  ·replace c5:=NF c5;subst c5;replace H:=IN H;have H':=AM H;clear H;go_wp2_with (first|(refine GC 28 ?_;refine GM (some 15) Try.func28 (spec_opReach.calls a0 false _ A4.out) ?_;rintro e w' ⟨rfl,⟨nd,rfl⟩⟩;refine ⟨_,rfl,?_⟩));go_meet
   case rel=>exact ⟨_,(true),RF,H',⟨by first|omega|exact Nat.le_refl _⟩,⟨BB⟩⟩
 case rest =>
  clear HC3;try clear c1
  try clear c2
  try clear p2
  try clear c5
  try clear p6
  try clear c7
  obtain ⟨kq,x22_2,rfl,HA,HJ2,HB⟩:=hcut;cases kq with
  | zero=>exact absurd HA.out (by simp [spec_FindOpposite.j0])
  | succ kj2 =>
   have H:=HA.out;clear HA;simp only [spec_FindOpposite.j0] at H;by_cases c8 : x22_2 = true
   ·subst c8;replace H:=IP H;simp only [Option.some.injEq,Prod.mk.injEq] at H;obtain ⟨rfl,rfl⟩:=H;go_wp2;go_ret2;exact ⟨_,RE,by first|exact Kd.R_nil _ _ _ _ _|exact Kd.N_nil _ _ _ _ _|exact Kd.V_nil _ _ _ _ _|exact Kd.Q_nil _ _ _ _ _|exact Kd.S_nil _ _ _ _ _,BB⟩
   ·replace c8:=NF c8;subst c8;replace H:=IN H;replace H:=EA H;obtain ⟨t452,A9,H⟩:=H;have H':=AM H;clear H;go_wp2_with (first|(refine GC 30 ?_;refine GM (some 24) Try.func30 (spec_opBorder.calls kj2 a0 t452 _ A9.out) ?_;rintro e w10 ⟨v453,rfl,ho0,hb⟩;refine ⟨_,rfl,?_⟩;have HO454:=AM (Kd.R_lower ho0 (BZ BB));replace HB:=HS hb;try clear hb ho0;obtain ⟨Ao11,co11,eo11⟩:=Kd.R_slice HO454.out;subst eo11));go_loopg [27] kj2 (fun kq v27 w'=>∃ (x27_2 : Int),v27 = .int .i64 x27_2∧Aside0 (spec_FindOpposite.l0 kq a0 l1 t452 t452 (t452.length : Int) x27_2 = some (r1,r2))∧Aside0 (kq ≤ kj2)∧Aside0 (Kd.R (Kd.int .i64) 3 w' w.heap.size (fun _=>True) (.slice Ao11 t452.length co11) t452)∧Aside0 (Kd.R (Kd.int .i64) 3 w' w.heap.size (fun _=>True) (.slice Ao11 t452.length co11) t452)∧Aside0 (Below w.heap.size w w'))
    case atStart=>exact ⟨(0),RF,H',⟨Nat.le_refl _⟩,⟨KR HO454⟩,⟨KR HO454⟩,⟨BB⟩⟩
    case round =>
     clear H';try clear c1
     try clear c2
     try clear p2
     try clear c3
     try clear c5
     try clear p6
     try clear c7
     try clear c8
     try clear p2
     try clear p6
     obtain ⟨x27_2,rfl,HA,HK2,HO_6,HO_25,HB⟩:=hrel;cases gk with
     | zero=>exact absurd HA.out (by simp [spec_FindOpposite.l0])
     | succ k2 =>
      have H:=HA.out;clear HA;simp only [spec_FindOpposite.l0] at H;by_cases c12 : x27_2 < (t452.length : Int)
      ·rw [if_pos c12] at H;have c12b0:=DT c12;clear c12;replace H:=IC H;obtain ⟨c13,H⟩:=H;have c13b0:=DT c13;clear c13;replace H:=IC H;obtain ⟨c14,H⟩:=H;have c14b0:=DT c14;clear c14;replace H:=ID H;obtain ⟨c15,H⟩:=H;have c15b0:=beq_eq_false_iff_ne.mpr c15;have c15b1:=bne_iff_ne.mpr c15;have c15b2 : ¬ (t452 = []):=fun h_=>c15 (by rw [h_];rfl)
       obtain ⟨ji16,hji16⟩ : ∃ j_ : Int,(Int.tmod (wrap64 (x27_2 + 1)) (t452.length : Int)) = j_:=⟨_,rfl⟩;replace H : (if 0 ≤ (ji16) then (if (ji16) < (t452.length : Int) then (if 0 ≤ (rd t452 x27_2) then (if (rd t452 x27_2) < (l1.length : Int) then (if 0 ≤ (rd t452 (ji16)) then (if (rd t452 (ji16)) < (l1.length : Int) then (if (wrap64 ((rd l1 (rd t452 x27_2)) + (rd l1 (rd t452 (ji16))))) = 0 then ((spec_doInner.f (rd t452 x27_2) (rd t452 (ji16))).bind fun t459=>(some (t459,true))) else (spec_FindOpposite.l0 k2 a0 l1 t452 t452 (t452.length : Int) (wrap64 (x27_2 + 1)))) else (none)) else (none)) else (none)) else (none)) else (none)) else (none)) = some (r1,r2):=by first|(rw [hji16] at H;exact H)|(simp only [hji16] at H ⊢;exact H)
       replace H:=IC H;obtain ⟨c17,H⟩:=H;have c17b0:=DT c17;clear c17;replace H:=IC H;obtain ⟨c18,H⟩:=H;have c18b0:=DT c18;clear c18;replace H:=IC H;obtain ⟨c19,H⟩:=H;have c19b0:=DT c19;clear c19;replace H:=IC H;obtain ⟨c20,H⟩:=H;have c20b0:=DT c20;clear c20;replace H:=IC H;obtain ⟨c21,H⟩:=H;have c21b0:=DT c21;clear c21;replace H:=IC H;obtain ⟨c22,H⟩:=H;have c22b0:=DT c22;clear c22;by_cases c23 : (wrap64 ((rd l1 (rd t452 x27_2)) + (rd l1 (rd t452 (ji16))))) = 0
       ·rw [if_pos c23] at H;have c23b0:=QT c23;have c23b1:=bne_eq_false_iff_eq.mpr c23;clear c23;replace H:=EA H;obtain ⟨t459,A24,H⟩:=H;simp only [Option.some.injEq,Prod.mk.injEq] at H;obtain ⟨rfl,rfl⟩:=H;have p455 : 0 ≤ (x27_2 : Int):=OD AS;have q455 : x27_2 < (t452.length : Int):=OD AS;obtain ⟨ad455,e455,hx455_0⟩:=Kd.at_int (Kd.R_reads' HO_25.out).2.2 x27_2 p455 q455;cases e455;replace p455:=ET p455;replace q455:=ET q455;have p456 : 0 ≤ ((ji16) : Int):=OD AS;have q456 : (ji16) < (t452.length : Int):=OD AS;obtain ⟨ad456,e456,hx456_0⟩:=Kd.at_int (Kd.R_reads' HO_6.out).2.2 (ji16) p456 q456;obtain rfl : ad455 = ad456:=(by injection e456);replace p456:=ET p456;replace q456:=ET q456;try go_wp2
        replace HO_6:=AM (Kd.R_drew HO_6.out);replace HO_25:=AM (Kd.R_drew HO_25.out);replace HB:=AM (below_drew1 HB.out);have p457 : 0 ≤ ((rd t452 x27_2) : Int):=OD AS;have q457 : (rd t452 x27_2) < (l1.length : Int):=OD AS;obtain ⟨ad457,e457,hx457_0⟩:=Kd.at_int HR1.out (rd t452 x27_2) p457 q457;have hw457_0:=hx457_0;cases e457;try (replace hx457_0:=LC hx457_0)
        replace p457:=ET p457;replace q457:=ET q457;have p458 : 0 ≤ ((rd t452 (ji16)) : Int):=OD AS;have q458 : (rd t452 (ji16)) < (l1.length : Int):=OD AS;obtain ⟨ad458,e458,hx458_0⟩:=Kd.at_int HR1.out (rd t452 (ji16)) p458 q458;have hw458_0:=hx458_0;obtain rfl : ad457 = ad458:=(by injection e458);try (replace hx458_0:=LC hx458_0)
        replace p458:=ET p458;replace q458:=ET q458;refine PSt (n:=10) (S:=fun w'=>w'.cell? (ad457.add ((rd t452 x27_2)).toNat) = some (.int .i64 (rd l1 (rd t452 x27_2)))∧w'.cell? (ad457.add ((rd t452 (ji16))).toNat) = some (.int .i64 (rd l1 (rd t452 (ji16))))) (ds:=[]) ⟨LC hw457_0,LC hw458_0⟩ (fun hHeld=>?_);refine with_tabW spec_FindOpposite.tab8 spec_FindOpposite.bits8 (fun HT_ HW_=>?_);generalize wr.drew = w25 at HO_6 HO_25 HB hx457_0 hx458_0 hHeld ⊢;refine PA 0 40 HT_ ?_;refine PA 1 41 HT_ ?_;refine PA 2 42 HT_ ?_;refine PA 4 44 HT_ ?_;refine PA 5 45 HT_ ?_;refine PA 6 46 HT_ ?_;refine PB 3 43 HT_ HW_ hHeld ?_;refine PB 7 47 HT_ HW_ hHeld ?_;refine PA 8 48 HT_ ?_;refine PA 9 49 HT_ ?_;refine done_ (done_of HT_.out (by kernel_rfl)) ?_;try go_wp2_with (first|((with_reducible refine gate_callee (f:=31) rfl ?_);refine goesL_ (some 52) rfl rfl Try.func31 (by kernel_rfl) rfl #[.int .i64 (rd t452 x27_2),.int .i64 (rd t452 (ji16))] rfl (by (try simp only [List.map_toArray,List.map_cons,List.map_nil]);first|done|(simp only [hji16];rfl)|rfl|(simp only [List.length_drop,List.length_take];rfl)) ?_;(with_reducible refine (spec_doInner.calls (rd t452 x27_2) (rd t452 (ji16)) t459 _ A24.out).mono ?_);rintro e w26 ⟨v460,rfl,ho0,hb⟩;refine ⟨_,rfl,?_⟩;have HO461:=AM (Kd.R_lower (Kd.R_new' (Kd.R_new' ho0 (Kd.R_lt (KR HO_6))) (Kd.R_lt (KR HO_25))) (BZ BB));replace HO_6:=RO HO_6 ho0 hb;replace HO_25:=RO HO_25 ho0 hb;replace HB:=HS hb;try clear hb ho0))
        go_ret2;exact ⟨_,by first|rfl|(simp [errW_none,errW_some] <;> rfl)|(simp only [← hji16];first|rfl|(simp [errW_none,errW_some] <;> rfl))|(simp [*,errW_none,errW_some] <;> rfl),by (with_reducible repeat (first|apply Kd.R_alloc|apply Kd.R_drewN|apply Kd.R_drew));exact Kd.R_mono HO461.out (fun _ hk=>trivial),BB⟩
       ·rw [if_neg c23] at H;have c23b0:=beq_eq_false_iff_ne.mpr c23;have c23b1:=bne_iff_ne.mpr c23;have H':=AM H;clear H;have p455 : 0 ≤ (x27_2 : Int):=OD AS;have q455 : x27_2 < (t452.length : Int):=OD AS;obtain ⟨ad455,e455,hx455_0⟩:=Kd.at_int (Kd.R_reads' HO_25.out).2.2 x27_2 p455 q455;cases e455;replace p455:=ET p455;replace q455:=ET q455;have p456 : 0 ≤ ((ji16) : Int):=OD AS;have q456 : (ji16) < (t452.length : Int):=OD AS;obtain ⟨ad456,e456,hx456_0⟩:=Kd.at_int (Kd.R_reads' HO_6.out).2.2 (ji16) p456 q456;obtain rfl : ad455 = ad456:=(by injection e456);replace p456:=ET p456;replace q456:=ET q456;try go_wp2
        replace HO_6:=AM (Kd.R_drew HO_6.out);replace HO_25:=AM (Kd.R_drew HO_25.out);replace HB:=AM (below_drew1 HB.out);have p457 : 0 ≤ ((rd t452 x27_2) : Int):=OD AS;have q457 : (rd t452 x27_2) < (l1.length : Int):=OD AS;obtain ⟨ad457,e457,hx457_0⟩:=Kd.at_int HR1.out (rd t452 x27_2) p457 q457;have hw457_0:=hx457_0;cases e457;try (replace hx457_0:=LC hx457_0)
        replace p457:=ET p457;replace q457:=ET q457;have p458 : 0 ≤ ((rd t452 (ji16)) : Int):=OD AS;have q458 : (rd t452 (ji16)) < (l1.length : Int):=OD AS;obtain ⟨ad458,e458,hx458_0⟩:=Kd.at_int HR1.out (rd t452 (ji16)) p458 q458;have hw458_0:=hx458_0;obtain rfl : ad457 = ad458:=(by injection e458);try (replace hx458_0:=LC hx458_0)
        replace p458:=ET p458;replace q458:=ET q458;refine PSt (n:=10) (S:=fun w'=>w'.cell? (ad457.add ((rd t452 x27_2)).toNat) = some (.int .i64 (rd l1 (rd t452 x27_2)))∧w'.cell? (ad457.add ((rd t452 (ji16))).toNat) = some (.int .i64 (rd l1 (rd t452 (ji16))))) (ds:=[]) ⟨LC hw457_0,LC hw458_0⟩ (fun hHeld=>?_);refine with_tabW spec_FindOpposite.tab8 spec_FindOpposite.bits8 (fun HT_ HW_=>?_);generalize wr.drew = w27 at HO_6 HO_25 HB hx457_0 hx458_0 hHeld ⊢;refine PA 0 40 HT_ ?_;refine PA 1 41 HT_ ?_;refine PA 2 42 HT_ ?_;refine PA 4 44 HT_ ?_;refine PA 5 45 HT_ ?_;refine PA 6 46 HT_ ?_;refine PB 3 43 HT_ HW_ hHeld ?_;refine PB 7 47 HT_ HW_ hHeld ?_;refine PA 8 48 HT_ ?_;refine PA 9 49 HT_ ?_;refine done_ (done_of HT_.out (by kernel_rfl)) ?_;try go_wp2
        go_roundg k2
        case measure=>have:=HJ2.out;have:=HK2.out;omega
        case rel=>exact ⟨(wrap64 (x27_2 + 1)),RF,H',⟨by have:=HJ2.out;have:=HK2.out;omega⟩,⟨KR HO_6⟩,⟨KR HO_25⟩,⟨BB⟩⟩
      ·rw [if_neg c12] at H;have c12b0:=DF c12;try (have c12bl:=c12b0;rw [hl465_0] at c12bl)
       clear c12;replace H:=EA H;obtain ⟨t462,A28,H⟩:=H;have H':=AM H;clear H;go_wp2_with (first|(refine GC 32 ?_;refine GM (some 56) Try.func32 (spec_opDoors.calls k2 a0 _ _ l1 t462 _ (CW (Kd.C_below HR1.out HB.out)) HC1.out A28.out) ?_;rintro e w29 ⟨v463,rfl,ho0,hb⟩;refine ⟨_,rfl,?_⟩;have HO464:=AM (Kd.S_lower (Kd.S_new' (Kd.S_new' ho0 (Kd.R_lt (KR HO_6))) (Kd.R_lt (KR HO_25))) (BZ BB));replace HO_6:=RB HO_6 hb;replace HO_25:=RB HO_25 hb;replace HB:=HS hb;try clear hb ho0;obtain ⟨Ao30,co30,eo30⟩:=Kd.S_slice HO464.out;subst eo30));go_loopg [58] k2 (fun kq v58 w'=>∃ (x58_3 : Int),v58 = .int .i64 x58_3∧Aside0 (spec_FindOpposite.l1 kq a0 l1 t462 (t462.length : Int) x58_3 = some (r1,r2))∧Aside0 (kq ≤ k2)∧Aside0 (Kd.S (Kd.slice 3 (Kd.int .i64)) 24 w' w.heap.size (fun _=>True) (.slice Ao30 t462.length co30) t462)∧Aside0 (Below w.heap.size w w'))
       case atStart=>exact ⟨(0),RF,H',⟨Nat.le_refl _⟩,⟨by (with_reducible repeat (first|apply Kd.S_alloc|apply Kd.S_drewN|apply Kd.S_drew));exact Kd.S_mono HO464.out (fun _ hk=>trivial)⟩,⟨BB⟩⟩
       case round =>
        clear H';try clear c1
        try clear c2
        try clear p2
        try clear c3
        try clear p4
        try clear q4
        try clear hx4
        try clear c5
        try clear p6
        try clear c7
        try clear c8
        try clear c12
        try clear c12b0
        try clear c13
        try clear c13b0
        try clear c14
        try clear c14b0
        try clear c15
        try clear c15b0
        try clear c15b1
        try clear c15b2
        try clear c17
        try clear c17b0
        try clear c18
        try clear c18b0
        try clear c19
        try clear c19b0
        try clear c20
        try clear c20b0
        try clear c21
        try clear c21b0
        try clear c22
        try clear c22b0
        try clear c23
        try clear c23b0
        try clear c23b1
        try clear c28
        try clear c30
        try clear hx455_0
        try clear hx456_0
        try clear hx457_0
        try clear hx458_0
        try clear p2
        try clear p455
        try clear p456
        try clear p457
        try clear p458
        try clear p6
        try clear q455
        try clear q456
        try clear q457
        try clear q458
        obtain ⟨x58_3,rfl,HA,HK3,HO_56,HB⟩:=hrel;cases gk with
        | zero=>exact absurd HA.out (by simp [spec_FindOpposite.l1])
        | succ k3 =>
         have H:=HA.out;clear HA;simp only [spec_FindOpposite.l1] at H;by_cases c31 : x58_3 < (t462.length : Int)
         ·rw [if_pos c31] at H;have c31b0:=DT c31;clear c31;replace H:=IC H;obtain ⟨c32,H⟩:=H;have c32b0:=DT c32;clear c32;replace H:=IC H;obtain ⟨c33,H⟩:=H;have c33b0:=DT c33;clear c33;replace H:=IC H;obtain ⟨c34,H⟩:=H;have c34b0:=DT c34;have c34b1 : decide (0 < (rd_L2 t462 x58_3).length) = true:=DT (by omega);clear c34;replace H:=IC H;obtain ⟨c35,H⟩:=H;have c35b0:=DT c35;have c35b1 : decide (1 < (rd_L2 t462 x58_3).length) = true:=DT (by omega);clear c35;replace H:=EA H;obtain ⟨t468,A36,H⟩:=H;replace H:=EA H;obtain ⟨⟨t471,t474⟩,A37,H⟩:=H;try dsimp only at H
          by_cases c38 : (t474.length : Int) > 0
          ·rw [if_pos c38] at H;have c38b0:=DT c38;have c38b1 : decide (0 < t474.length) = true:=DT (by omega);clear c38;simp only [Option.some.injEq,Prod.mk.injEq] at H;obtain ⟨rfl,rfl⟩:=H;have p465 : 0 ≤ (x58_3 : Int):=OD AS;have q465 : x58_3 < (t462.length : Int):=OD AS;obtain ⟨ad465,A465_0,c465_0,e465,hx465_0,hl465_0,hi465_0⟩:=at_L2 (Kd.S_reads' HO_56.out).2.2 x58_3 p465 q465;cases e465;obtain ⟨ce465,hce465,hMe465,hcc465⟩:=Kd.S_get HO_56.out [] x58_3 p465 (by first|exact q465|exact OD AS|(have e_:=(Kd.S_reads' HO_56.out).1;omega));obtain ⟨ve465_0,rfl,ge465_0⟩:=hMe465;have hv465_0:=hcc465 0 _ rfl;rw [Nat.add_zero,show ((Kd.slice 3 (Kd.int .i64))).sz = 1 from rfl,Nat.mul_one] at hv465_0;replace hv465_0:=Option.some.inj (hv465_0.symm.trans hx465_0);rw [hv465_0] at ge465_0;have HL465_0:=AM (show Kd.R (Kd.int .i64) 3 _ _ _ _ (rd_L2 t462 x58_3) from ge465_0);clear hv465_0 ge465_0;clear hcc465 hce465;have HR465_0:=AM hi465_0;have HC465_0:=AM hl465_0;clear hi465_0 hl465_0;replace p465:=ET p465;replace q465:=ET q465;try go_wp2
           replace HO_56:=AM (Kd.S_drew HO_56.out);replace HL465_0:=AM (Kd.R_drew HL465_0.out);replace HR465_0:=AM (Kd.C_drew HR465_0.out);replace HB:=AM (below_drew1 HB.out);have p466 : 0 ≤ (0 : Int):=(by omega);have q466 : 0 < ((rd_L2 t462 x58_3).length : Int):=OD AS;obtain ⟨ad466,e466,hx466_0⟩:=Kd.at_int (CX HR465_0) 0 p466 q466;cases e466;have qi466 : (0 < (rd_L2 t462 x58_3).length) = True:=ET (by omega)
           (try rw [show ((0 : Int)).toNat = 0 from rfl] at hx466_0)
           (try rw [Addr.add_zero'] at hx466_0);replace p466:=ET p466;replace q466:=ET q466;have p467 : 0 ≤ (1 : Int):=(by omega);have q467 : 1 < ((rd_L2 t462 x58_3).length : Int):=OD AS;obtain ⟨ad467,e467,hx467_0⟩:=Kd.at_int (CX HR465_0) 1 p467 q467;obtain rfl : ad466 = ad467:=(by injection e467)
           (try simp only [show (1 : Int).toNat = 1 from rfl,Nat.reduceMul,Nat.reduceEqDiff,Go.Addr.add,↓reduceIte] at hx467_0);have qi467 : (1 < (rd_L2 t462 x58_3).length) = True:=ET (by omega)
           (try rw [show ((1 : Int)).toNat = 1 from rfl] at hx467_0);replace p467:=ET p467;replace q467:=ET q467;refine PSt (n:=15) (S:=fun w'=>w'.cell? ad466 = some (.int .i64 (rd (rd_L2 t462 x58_3) 0))∧w'.cell? ⟨ad466.block,ad466.off + 1,none⟩ = some (.int .i64 (rd (rd_L2 t462 x58_3) 1))) (ds:=[]) ⟨hx466_0,hx467_0⟩ (fun hHeld=>?_);refine with_tabW spec_FindOpposite.tab14 spec_FindOpposite.bits14 (fun HT_ HW_=>?_);generalize wr.drew = w39 at HO_56 HL465_0 HR465_0 HB hx466_0 hx467_0 hHeld ⊢;refine PA 0 63 HT_ ?_;refine PA 1 64 HT_ ?_;refine PA 2 65 HT_ ?_;refine PA 3 66 HT_ ?_;refine PA 5 68 HT_ ?_;refine PA 6 69 HT_ ?_;refine PB 4 67 HT_ HW_ hHeld ?_;refine PB 7 70 HT_ HW_ hHeld ?_;refine PC 8 71 HT_ (fun K hK=>?_);refine goes_ Try.func31 (by kernel_rfl) rfl #[.int .i64 (rd (rd_L2 t462 x58_3) 0),.int .i64 (rd (rd_L2 t462 x58_3) 1)] (by rfl) rfl rfl TA ?_;with_reducible refine (spec_doInner.calls (rd (rd_L2 t462 x58_3) 0) (rd (rd_L2 t462 x58_3) 1) t468 _ A36.out).mono ?_
           rintro e w40 ⟨v469,rfl,ho0,hb⟩;have HS0_:=LD hb hHeld.1;have HS1_:=LD hb hHeld.2;refine ⟨_,rfl,?_⟩;replace HO_56:=SO HO_56 ho0 hb;have HO470:=AM (Kd.R_lower (Kd.R_new' ho0 (Kd.R_lt (KR HL465_0))) (BZ BB));replace HL465_0:=RO HL465_0 ho0 hb;replace HR465_0:=AM (Kd.C_below (CX HR465_0) hb);replace HB:=HS hb;try clear hb ho0
           obtain ⟨Ao41,co41,eo41⟩:=Kd.R_slice HO470.out
           (first|subst eo41|(injection eo41 with f1_ f2_ f3_;have f4_:=f1_.symm;have f5_:=f3_.symm;clear f1_ f2_ f3_;subst f4_;subst f5_));refine hK.out _ _ ⟨HS0_,HS1_⟩ (fun hHeld=>?_);clear hK K;refine norm_ (a':=?_) ?_ ?_;rotate_left
           ·show Act.put _ (some 71) _ = _;simp only [Act.put,List.setIfInBounds_toArray,List.set_cons_zero,List.set_cons_succ,i64_w,i32_w];rfl
           refine PC 9 72 HT_ (fun K hK=>?_);refine goes_ Try.func33 (by kernel_rfl) rfl #[.int .i64 a0,.slice A1 l1.length c1,.slice Ao41 t468.length co41] (by rfl) rfl rfl TA ?_;with_reducible refine (spec_opWalk.calls k3 a0 _ _ l1 (fun k_=>some k_ = (.slice Ao41 t468.length co41 : Value).ownBlock) _ _ t468 t471 t474 _ ?side1 ?side2 ?side3 A37.out).mono ?_
           (case side1=>exact CW (Kd.C_below HR1.out HB.out))
           (case side2=>exact HC1.out)
           (case side3=>exact Kd.R_V (Kd.R_tight rfl (Kd.R_apart' (HO470.out) (Kd.S_typed HO_56.out) (by decide))));rintro e w42 ⟨v472,v475,rfl,ho0,ho1,hb⟩;have HS0_:=LD hb hHeld.1;have HS1_:=LD hb hHeld.2;refine ⟨_,rfl,?_⟩;replace HO_56:=AM (Kd.S_mono (Kd.S_told (Kd.S_told (Kd.S_old (KS HO_56) hb) (Kd.R_base ho0)) (Kd.R_base ho1)) (fun _ h_=>h_.1));have HO473:=AM (Kd.R_lower (Kd.R_new' (Kd.R_new' (Kd.R_mono (ok':=fun k_=>some k_≠(v475 : Value).ownBlock) ho0 (fun _ hk_=>hk_.2)) (Kd.R_lt (KR HL465_0))) (Kd.R_lt (KR HO470))) (BZ BB));have HO476:=AM (Kd.R_lower (Kd.R_new' (Kd.R_new' (Kd.R_mono (ok':=fun k_=>some k_≠(v472 : Value).ownBlock) ho1 (fun _ hk_=>hk_.2)) (Kd.R_lt (KR HL465_0))) (Kd.R_lt (KR HO470))) (BZ BB));replace HL465_0:=AM (Kd.R_mono (Kd.R_told (Kd.R_told (Kd.R_old (KR HL465_0) hb) (Kd.R_base ho0)) (Kd.R_base ho1)) (fun _ h_=>h_.1));replace HO470:=AM (Kd.R_mono (Kd.R_told (Kd.R_told (Kd.R_old (KR HO470) hb) (Kd.R_base ho0)) (Kd.R_base ho1)) (fun _ h_=>h_.1));replace HR465_0:=AM (Kd.C_below (CX HR465_0) hb);replace HB:=HS hb;try clear hb ho0 ho1
           refine hK.out _ _ ⟨HS0_,HS1_⟩ (fun hHeld=>?_);clear hK K;refine norm_ (a':=?_) ?_ ?_;rotate_left
           ·show Act.put _ (some 72) _ = _;simp only [Act.put,List.setIfInBounds_toArray,List.set_cons_zero,List.set_cons_succ,i64_w,i32_w];rfl
           refine PA 10 62 HT_ ?_;refine PA 11 73 HT_ ?_;refine PA 12 74 HT_ ?_;refine PA 13 12 HT_ ?_;refine PA 14 13 HT_ ?_;refine done_ (done_of HT_.out (by kernel_rfl)) ?_;obtain ⟨Ao43,co43,eo43⟩:=Kd.R_slice HO476.out;subst eo43;try go_wp2
           go_ret2;exact ⟨_,RE,by (with_reducible repeat (first|apply Kd.R_alloc|apply Kd.R_drewN|apply Kd.R_drew));exact Kd.R_mono HO476.out (fun _ hk=>trivial),BB⟩
          ·rw [if_neg c38] at H;have c38b0:=DF c38;have c38b1 : decide (0 < t474.length) = false:=DF (by omega);clear c38;have H':=AM H;clear H;have p465 : 0 ≤ (x58_3 : Int):=OD AS;have q465 : x58_3 < (t462.length : Int):=OD AS;obtain ⟨ad465,A465_0,c465_0,e465,hx465_0,hl465_0,hi465_0⟩:=at_L2 (Kd.S_reads' HO_56.out).2.2 x58_3 p465 q465;cases e465;obtain ⟨ce465,hce465,hMe465,hcc465⟩:=Kd.S_get HO_56.out [] x58_3 p465 (by first|exact q465|exact OD AS|(have e_:=(Kd.S_reads' HO_56.out).1;omega));obtain ⟨ve465_0,rfl,ge465_0⟩:=hMe465;have hv465_0:=hcc465 0 _ rfl;rw [Nat.add_zero,show ((Kd.slice 3 (Kd.int .i64))).sz = 1 from rfl,Nat.mul_one] at hv465_0;replace hv465_0:=Option.some.inj (hv465_0.symm.trans hx465_0);rw [hv465_0] at ge465_0;have HL465_0:=AM (show Kd.R (Kd.int .i64) 3 _ _ _ _ (rd_L2 t462 x58_3) from ge465_0);clear hv465_0 ge465_0;clear hcc465 hce465;have HR465_0:=AM hi465_0;have HC465_0:=AM hl465_0;clear hi465_0 hl465_0;replace p465:=ET p465;replace q465:=ET q465;try go_wp2
           replace HO_56:=AM (Kd.S_drew HO_56.out);replace HL465_0:=AM (Kd.R_drew HL465_0.out);replace HR465_0:=AM (Kd.C_drew HR465_0.out);replace HB:=AM (below_drew1 HB.out);have p466 : 0 ≤ (0 : Int):=(by omega);have q466 : 0 < ((rd_L2 t462 x58_3).length : Int):=OD AS;obtain ⟨ad466,e466,hx466_0⟩:=Kd.at_int (CX HR465_0) 0 p466 q466;cases e466;have qi466 : (0 < (rd_L2 t462 x58_3).length) = True:=ET (by omega)
           (try rw [show ((0 : Int)).toNat = 0 from rfl] at hx466_0)
           (try rw [Addr.add_zero'] at hx466_0);replace p466:=ET p466;replace q466:=ET q466;have p467 : 0 ≤ (1 : Int):=(by omega);have q467 : 1 < ((rd_L2 t462 x58_3).length : Int):=OD AS;obtain ⟨ad467,e467,hx467_0⟩:=Kd.at_int (CX HR465_0) 1 p467 q467;obtain rfl : ad466 = ad467:=(by injection e467)
           (try simp only [show (1 : Int).toNat = 1 from rfl,Nat.reduceMul,Nat.reduceEqDiff,Go.Addr.add,↓reduceIte] at hx467_0);have qi467 : (1 < (rd_L2 t462 x58_3).length) = True:=ET (by omega)
           (try rw [show ((1 : Int)).toNat = 1 from rfl] at hx467_0);replace p467:=ET p467;replace q467:=ET q467;refine PSt (n:=15) (S:=fun w'=>w'.cell? ad466 = some (.int .i64 (rd (rd_L2 t462 x58_3) 0))∧w'.cell? ⟨ad466.block,ad466.off + 1,none⟩ = some (.int .i64 (rd (rd_L2 t462 x58_3) 1))) (ds:=[]) ⟨hx466_0,hx467_0⟩ (fun hHeld=>?_);refine with_tabW spec_FindOpposite.tab14 spec_FindOpposite.bits14 (fun HT_ HW_=>?_);generalize wr.drew = w44 at HO_56 HL465_0 HR465_0 HB hx466_0 hx467_0 hHeld ⊢;refine PA 0 63 HT_ ?_;refine PA 1 64 HT_ ?_;refine PA 2 65 HT_ ?_;refine PA 3 66 HT_ ?_;refine PA 5 68 HT_ ?_;refine PA 6 69 HT_ ?_;refine PB 4 67 HT_ HW_ hHeld ?_;refine PB 7 70 HT_ HW_ hHeld ?_;refine PC 8 71 HT_ (fun K hK=>?_);refine goes_ Try.func31 (by kernel_rfl) rfl #[.int .i64 (rd (rd_L2 t462 x58_3) 0),.int .i64 (rd (rd_L2 t462 x58_3) 1)] (by rfl) rfl rfl TA ?_;with_reducible refine (spec_doInner.calls (rd (rd_L2 t462 x58_3) 0) (rd (rd_L2 t462 x58_3) 1) t468 _ A36.out).mono ?_
           rintro e w45 ⟨v469,rfl,ho0,hb⟩;have HS0_:=LD hb hHeld.1;have HS1_:=LD hb hHeld.2;refine ⟨_,rfl,?_⟩;replace HO_56:=SO HO_56 ho0 hb;have HO470:=AM (Kd.R_lower (Kd.R_new' ho0 (Kd.R_lt (KR HL465_0))) (BZ BB));replace HL465_0:=RO HL465_0 ho0 hb;replace HR465_0:=AM (Kd.C_below (CX HR465_0) hb);replace HB:=HS hb;try clear hb ho0
           obtain ⟨Ao46,co46,eo46⟩:=Kd.R_slice HO470.out
           (first|subst eo46|(injection eo46 with f1_ f2_ f3_;have f4_:=f1_.symm;have f5_:=f3_.symm;clear f1_ f2_ f3_;subst f4_;subst f5_));refine hK.out _ _ ⟨HS0_,HS1_⟩ (fun hHeld=>?_);clear hK K;refine norm_ (a':=?_) ?_ ?_;rotate_left
           ·show Act.put _ (some 71) _ = _;simp only [Act.put,List.setIfInBounds_toArray,List.set_cons_zero,List.set_cons_succ,i64_w,i32_w];rfl
           refine PC 9 72 HT_ (fun K hK=>?_);refine goes_ Try.func33 (by kernel_rfl) rfl #[.int .i64 a0,.slice A1 l1.length c1,.slice Ao46 t468.length co46] (by rfl) rfl rfl TA ?_;with_reducible refine (spec_opWalk.calls k3 a0 _ _ l1 (fun k_=>some k_ = (.slice Ao46 t468.length co46 : Value).ownBlock) _ _ t468 t471 t474 _ ?side1 ?side2 ?side3 A37.out).mono ?_
           (case side1=>exact CW (Kd.C_below HR1.out HB.out))
           (case side2=>exact HC1.out)
           (case side3=>exact Kd.R_V (Kd.R_tight rfl (Kd.R_apart' (HO470.out) (Kd.S_typed HO_56.out) (by decide))));rintro e w47 ⟨v472,v475,rfl,ho0,ho1,hb⟩;have HS0_:=LD hb hHeld.1;have HS1_:=LD hb hHeld.2;refine ⟨_,rfl,?_⟩;replace HO_56:=AM (Kd.S_mono (Kd.S_told (Kd.S_told (Kd.S_old (KS HO_56) hb) (Kd.R_base ho0)) (Kd.R_base ho1)) (fun _ h_=>h_.1));have HO473:=AM (Kd.R_lower (Kd.R_new' (Kd.R_new' (Kd.R_mono (ok':=fun k_=>some k_≠(v475 : Value).ownBlock) ho0 (fun _ hk_=>hk_.2)) (Kd.R_lt (KR HL465_0))) (Kd.R_lt (KR HO470))) (BZ BB));have HO476:=AM (Kd.R_lower (Kd.R_new' (Kd.R_new' (Kd.R_mono (ok':=fun k_=>some k_≠(v472 : Value).ownBlock) ho1 (fun _ hk_=>hk_.2)) (Kd.R_lt (KR HL465_0))) (Kd.R_lt (KR HO470))) (BZ BB));replace HL465_0:=AM (Kd.R_mono (Kd.R_told (Kd.R_told (Kd.R_old (KR HL465_0) hb) (Kd.R_base ho0)) (Kd.R_base ho1)) (fun _ h_=>h_.1));replace HO470:=AM (Kd.R_mono (Kd.R_told (Kd.R_told (Kd.R_old (KR HO470) hb) (Kd.R_base ho0)) (Kd.R_base ho1)) (fun _ h_=>h_.1));replace HR465_0:=AM (Kd.C_below (CX HR465_0) hb);replace HB:=HS hb;try clear hb ho0 ho1
           refine hK.out _ _ ⟨HS0_,HS1_⟩ (fun hHeld=>?_);clear hK K;refine norm_ (a':=?_) ?_ ?_;rotate_left
           ·show Act.put _ (some 72) _ = _;simp only [Act.put,List.setIfInBounds_toArray,List.set_cons_zero,List.set_cons_succ,i64_w,i32_w];rfl
           refine PA 10 62 HT_ ?_;refine PA 11 73 HT_ ?_;refine PA 12 74 HT_ ?_;refine PA 13 12 HT_ ?_;refine PA 14 13 HT_ ?_;refine done_ (done_of HT_.out (by kernel_rfl)) ?_;obtain ⟨Ao48,co48,eo48⟩:=Kd.R_slice HO476.out;subst eo48;try go_wp2
           go_roundg k3
           case measure=>have:=HJ2.out;have:=HK2.out;have:=HK3.out;omega
           case rel=>exact ⟨(wrap64 (x58_3 + 1)),RF,H',⟨by have:=HJ2.out;have:=HK2.out;have:=HK3.out;omega⟩,⟨by (with_reducible repeat (first|apply Kd.S_alloc|apply Kd.S_drewN|apply Kd.S_drew));exact Kd.S_mono HO_56.out (fun _ hk=>trivial)⟩,⟨BB⟩⟩
         ·rw [if_neg c31] at H;have c31b0:=DF c31;try (have c31bl:=c31b0;rw [hl465_0] at c31bl)
          clear c31;simp only [Option.some.injEq,Prod.mk.injEq] at H;obtain ⟨rfl,rfl⟩:=H;go_wp2;go_ret2;exact ⟨_,RE,by first|exact Kd.R_nil _ _ _ _ _|exact Kd.N_nil _ _ _ _ _|exact Kd.V_nil _ _ _ _ _|exact Kd.Q_nil _ _ _ _ _|exact Kd.S_nil _ _ _ _ _,BB⟩

end Go.Proofs.Ytlolkkfpfjlhmaa.PFnOppositeEdgesFound
