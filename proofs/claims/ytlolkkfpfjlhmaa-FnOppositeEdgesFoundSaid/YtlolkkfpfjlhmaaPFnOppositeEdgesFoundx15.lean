-- Written by a program of this session (wip/tools/pp.sh) out of the translation; Lean checks it.
import Derived.Test.YtlolkkfpfjlhmaaPFnOppositeEdgesFoundx5
import Derived.Test.YtlolkkfpfjlhmaaPFnOppositeEdgesFoundx10
namespace Go.Proofs.Ytlolkkfpfjlhmaa.PFnOppositeEdgesFound
open Go.RowKit Go.Proofs.YtlolkkfpfjlhmaaOwn Go.Proofs.YtlolkkfpfjlhmaaW.PrintWords Go.Proofs.YtlolkkfpfjlhmaaW.PrintLast Go.Proofs.YtlolkkfpfjlhmaaW.PrintMore
attribute [local go_sem] max2_int min2_int max_two min_two max_three min_three max_four min_four   -- for this text's walks alone
set_option linter.unusedVariables false
set_option maxHeartbeats 8000000
set_option maxRecDepth 100000
set_option linter.unusedSimpArgs false

/-! ### impl_AreOpposite: function 8 -/
def impl_AreOpposite.f (k : Nat) (a0 : Int) (l1 : List Int) : Option (Bool × Bool):=(impl_areOpposite.f k a0 l1).bind fun t477=>((impl_isReach.f a0).bind fun t478=>(some (t477,t478)))
theorem impl_AreOpposite.mono : ∀ a0 a1 k,LeO (impl_AreOpposite.f k a0 a1) (impl_AreOpposite.f (k + 1) a0 a1):=by
 intro a0 a1 k;unfold impl_AreOpposite.f
 have m0:=@impl_areOpposite.mono
 exact MO
theorem impl_AreOpposite.calls (k : Nat) (a0 : Int) (A1 : Option Addr) (c1 : Nat) (l1 : List Int) (r1 : Bool) (r2 : Bool) (w : World) (hr1 : Kd.C (Kd.int .i64) w A1 l1.length l1) (hc1 : l1.length ≤ c1) (h : impl_AreOpposite.f k a0 l1 = some (r1,r2)) :
  Calls Try.prog 8 #[.int .i64 a0,.slice A1 l1.length c1] w fun e w'=>e = .returned (.tuple #[.bool r1,.bool r2])∧Below w.heap.size w w':=by
 have HR1:=AM hr1;have HC1:=AM hc1;clear hr1 hc1;have HB:=HRf w;have H : ((impl_areOpposite.f k a0 l1).bind fun t477=>((impl_isReach.f a0).bind fun t478=>(some (t477,t478)))) = some (r1,r2):=h;clear h;replace H:=EA H;obtain ⟨t477,A3,H⟩:=H;replace H:=EA H;obtain ⟨t478,A4,H⟩:=H;simp only [Option.some.injEq,Prod.mk.injEq] at H;obtain ⟨rfl,rfl⟩:=H;go_enter Try.func8,Try.ntmps8;go_wp2_with (first|(refine GC 21 ?_;refine GM (some 8) Try.func21 (impl_areOpposite.calls k a0 _ _ l1 t477 _ (CW HR1.out) HC1.out A3.out) ?_;rintro e w5 ⟨rfl,hb⟩;refine ⟨_,rfl,?_⟩;replace HB:=HS hb;try clear hb)|(refine GC 34 ?_;refine GM (some 10) Try.func34 (impl_isReach.calls a0 t478 _ A4.out) ?_;rintro e w' ⟨rfl,⟨nd,rfl⟩⟩;refine ⟨_,rfl,?_⟩));go_ret2;exact ⟨RE,BB⟩

/-! ### spec_AreOpposite: function 9 -/
def spec_AreOpposite.f (k : Nat) (a0 : Int) (l1 : List Int) : Option (Bool × Bool):=(spec_opReach.f a0).bind fun t479=>(if t479 = true then ((spec_opIs.f k a0 l1).bind fun t480=>(some (t480,true))) else (some (false,false)))
theorem spec_AreOpposite.mono : ∀ a0 a1 k,LeO (spec_AreOpposite.f k a0 a1) (spec_AreOpposite.f (k + 1) a0 a1):=by
 intro a0 a1 k;unfold spec_AreOpposite.f
 have m0:=@spec_opIs.mono
 exact MO
theorem spec_AreOpposite.calls (k : Nat) (a0 : Int) (A1 : Option Addr) (c1 : Nat) (l1 : List Int) (r1 : Bool) (r2 : Bool) (w : World) (hr1 : Kd.C (Kd.int .i64) w A1 l1.length l1) (hc1 : l1.length ≤ c1) (h : spec_AreOpposite.f k a0 l1 = some (r1,r2)) :
  Calls Try.prog 9 #[.int .i64 a0,.slice A1 l1.length c1] w fun e w'=>e = .returned (.tuple #[.bool r1,.bool r2])∧Below w.heap.size w w':=by
 have HR1:=AM hr1;have HC1:=AM hc1;clear hr1 hc1;have HB:=HRf w;have H : ((spec_opReach.f a0).bind fun t479=>(if t479 = true then ((spec_opIs.f k a0 l1).bind fun t480=>(some (t480,true))) else (some (false,false)))) = some (r1,r2):=h;clear h;replace H:=EA H;obtain ⟨t479,A3,H⟩:=H;by_cases c4 : t479 = true
 ·subst c4;replace H:=IP H;replace H:=EA H;obtain ⟨t480,A5,H⟩:=H;simp only [Option.some.injEq,Prod.mk.injEq] at H;obtain ⟨rfl,rfl⟩:=H;go_enter Try.func9,Try.ntmps9;go_wp2_with (first|(refine GC 28 ?_;refine GM (some 7) Try.func28 (spec_opReach.calls a0 true _ A3.out) ?_;rintro e w' ⟨rfl,⟨nd,rfl⟩⟩;refine ⟨_,rfl,?_⟩)|(refine GC 29 ?_;refine GM (some 11) Try.func29 (spec_opIs.calls k a0 _ _ l1 t480 _ (CW HR1.out) HC1.out A5.out) ?_;rintro e w6 ⟨rfl,hb⟩;refine ⟨_,rfl,?_⟩;replace HB:=HS hb;try clear hb));go_ret2;exact ⟨RE,BB⟩
 ·replace c4:=NF c4;subst c4;replace H:=IN H;simp only [Option.some.injEq,Prod.mk.injEq] at H;obtain ⟨rfl,rfl⟩:=H;go_enter Try.func9,Try.ntmps9;go_wp2_with (first|(refine GC 28 ?_;refine GM (some 7) Try.func28 (spec_opReach.calls a0 false _ A3.out) ?_;rintro e w' ⟨rfl,⟨nd,rfl⟩⟩;refine ⟨_,rfl,?_⟩));go_ret2;exact ⟨RE,BB⟩

/-! ### impl_OppositeEdges: function 10 -/
mutual
def impl_OppositeEdges.l0 : Nat→List Int→List (List Int)→Int→Int→Int→Option ((List (List Int)) × Bool)
 | 0,_,_,_,_,_=>none
 | k + 1,x1,x6,x18,x19,x486000=>if x19 < x18 then (impl_OppositeEdges.l1 k x1 x6 x19 (wrap64 (x19 + 1)) x18 x19 x486000) else (some (x6,true))
def impl_OppositeEdges.l1 : Nat→List Int→List (List Int)→Int→Int→Int→Int→Int→Option ((List (List Int)) × Bool)
 | 0,_,_,_,_,_,_,_=>none
 | k + 1,x1,x6,x8,x9,x18,x19,x486000=>if x9 < (x1.length : Int) then ((impl_square_areNear.f x486000 x8 x9).bind fun t486=>(if t486 = true then (if 0 ≤ x8 then (if x8 < (x1.length : Int) then (if 0 ≤ x9 then (if (wrap64 ((rd x1 x8) + (rd x1 x9))) = 0 then (if x6.length < 5864062014805 then (impl_OppositeEdges.l1 k x1 (x6 ++ [(([x8,x9] : List Int))]) x8 (wrap64 (x9 + 1)) x18 x19 x486000) else (none)) else (impl_OppositeEdges.l1 k x1 x6 x8 (wrap64 (x9 + 1)) x18 x19 x486000)) else (none)) else (none)) else (none)) else (impl_OppositeEdges.l1 k x1 x6 x8 (wrap64 (x9 + 1)) x18 x19 x486000))) else (impl_OppositeEdges.l0 k x1 x6 x18 (wrap64 (x19 + 1)) x486000)
end
def impl_OppositeEdges.f (k : Nat) (a0 : Int) (l1 : List Int) : Option ((List (List Int)) × Bool):=(impl_areSigns.f k a0 l1).bind fun t481=>(if t481 = true then (impl_OppositeEdges.l0 k l1 (([] : List (List Int))) (l1.length : Int) 0 a0) else (some (([] : List (List Int)),false)))
theorem impl_OppositeEdges.mono_l : ∀ k,(∀ y0 y1 y2 y3 y4,LeO (impl_OppositeEdges.l0 k y0 y1 y2 y3 y4) (impl_OppositeEdges.l0 (k + 1) y0 y1 y2 y3 y4))∧(∀ y0 y1 y2 y3 y4 y5 y6,LeO (impl_OppositeEdges.l1 k y0 y1 y2 y3 y4 y5 y6) (impl_OppositeEdges.l1 (k + 1) y0 y1 y2 y3 y4 y5 y6))
 | 0=>⟨fun _ _ _ _ _=>LZ,fun _ _ _ _ _ _ _=>LZ⟩
 | k + 1=>by
  obtain ⟨ih0,ih1⟩:=impl_OppositeEdges.mono_l k
  have m0:=@impl_areSigns.mono
  refine ⟨?_,?_⟩ <;> intros
  all_goals (first|unfold impl_OppositeEdges.l0|unfold impl_OppositeEdges.l1)
  all_goals exact MO
theorem impl_OppositeEdges.mono : ∀ a0 a1 k,LeO (impl_OppositeEdges.f k a0 a1) (impl_OppositeEdges.f (k + 1) a0 a1):=by
 intro a0 a1 k;obtain ⟨ih0,ih1⟩:=impl_OppositeEdges.mono_l k;unfold impl_OppositeEdges.f
 have m0:=@impl_areSigns.mono
 exact MO
def impl_OppositeEdges.T10 : Bool × List (List Nat × List Nat):=(true,[([],[]),([],[]),([],[]),([0,1,2],[0,1,2]),([3,3],[3]),([4],[4]),([4],[4]),([5,6,4],[4,5,6]),([7,4],[4,7]),([4],[4]),([4],[4]),([9,10,4],[4,9,10]),([11,4],[4,11]),([8,12,4],[4,8,12]),([13,4],[4,13]),([4,14],[4,14])])
def impl_OppositeEdges.B10 : List Nat:=[0,0,0,7,15,31,31,127,255,31,31,1567,3615,8191,16383,32767]
theorem impl_OppositeEdges.tab10 : rtab .any (opsOf Try.f10 10) = impl_OppositeEdges.T10:=by kernel_rfl
theorem impl_OppositeEdges.bits10 : waitsOk impl_OppositeEdges.T10.2 impl_OppositeEdges.B10 = true:=by kernel_rfl
theorem impl_OppositeEdges.calls (k : Nat) (a0 : Int) (A1 : Option Addr) (c1 : Nat) (l1 : List Int) (r1 : List (List Int)) (r2 : Bool) (w : World) (hr1 : Kd.C (Kd.int .i64) w A1 l1.length l1) (hc1 : l1.length ≤ c1) (h : impl_OppositeEdges.f k a0 l1 = some (r1,r2)) :
  Calls Try.prog 10 #[.int .i64 a0,.slice A1 l1.length c1] w fun e w'=>∃ v0_ : Value,e = .returned (.tuple #[v0_,.bool r2])∧Kd.S (Kd.slice 3 (Kd.int .i64)) 24 w' w.heap.size (fun _=>True) v0_ r1∧Below w.heap.size w w':=by
 have hu43:=Try.underlying43;have HR1:=AM hr1;have HC1:=AM hc1;clear hr1 hc1;have HB:=HRf w;have H : ((impl_areSigns.f k a0 l1).bind fun t481=>(if t481 = true then (impl_OppositeEdges.l0 k l1 (([] : List (List Int))) (l1.length : Int) 0 a0) else (some (([] : List (List Int)),false)))) = some (r1,r2):=h;clear h;replace H:=EA H;obtain ⟨t481,A3,H⟩:=H;by_cases c4 : t481 = true
 ·subst c4;replace H:=IP H;obtain ⟨y482,hy482⟩ : ∃ y_ : List (List Int),y_ = (([] : List (List Int))):=⟨_,rfl⟩;replace H : (impl_OppositeEdges.l0 k l1 y482 (l1.length : Int) 0 a0) = some (r1,r2):=HY H hy482;have Ny482:=AM hy482;clear hy482;have H':=AM H;clear H;go_enter Try.func10,Try.ntmps10;go_wp2_with (first|(refine GC 35 ?_;refine GM (some 12) Try.func35 (impl_areSigns.calls k a0 _ _ l1 true _ (CW HR1.out) HC1.out A3.out) ?_;rintro e w' ⟨rfl,⟨nd,rfl⟩⟩;refine ⟨_,rfl,?_⟩)|((with_reducible refine gate_dst (N:=14) rfl ?_);refine Kd.S_lit (Kd.slice 3 (Kd.int .i64)) _ 24 ?hg (N:=14) ?hd (xs:=([] : List (List Int))) (inner:=[]) (ok:=fun _=>True) (okp:=fun _=>True) ?hr ?hp (fun _ hk=>hk) trivial (Below.refl _ _) (Nat.le_refl _) (by simp) ?_;(case hd=>rfl);(case hg=>rfl);(case hr=>exact GS);(case hp=>exact (Reps.none _ _));intro v483 w5 ho6 hb hg_ hnew_;clear hg_ hnew_;(first|rw [← Ny482.out] at ho6|(simp only [Int.reduceToNat] at ho6;rw [← Ny482.out] at ho6));have HO484:=AM (Kd.S_lower ho6 (BZ BB));replace HB:=HS hb;clear hb ho6)|((with_reducible refine gate_dst (N:=7) rfl ?_);refine box_event ?hg (N:=7) ?hd (cs:=#[.int .i64 0]) (t:=43) ?hr ?_;(case hd=>rfl);(case hg=>rfl);(case hr=>exact GS);intro gb485 hg w7 hbox hb;replace HO484:=SB HO484 hb;have BK485:=AM hbox;have GW485:=AM ((by rw [hg];exact (BZ BB) : w.heap.size ≤ gb485));have GE485:=AM ((by rw [hg];exact (BZ BB) : w.heap.size ≤ gb485));replace HB:=HS hb;clear hb hbox hg;have hcz8_0 : w7.cell? ⟨gb485,0,none⟩ = some (.int .i64 0):=(BC BK485.out 0).trans rfl;have hfz8_0:=BF BK485.out 0));go_loopg [6,19] k (fun kq v6 v19 w'=>∃ (x6_1 : List (List Int)) (x19_1 : Int),v19 = .int .i64 x19_1∧Aside0 (impl_OppositeEdges.l0 kq l1 x6_1 (l1.length : Int) x19_1 a0 = some (r1,r2))∧Aside0 (kq ≤ k)∧Aside0 (Kd.S (Kd.slice 3 (Kd.int .i64)) 24 w' w.heap.size (fun _=>True) v6 x6_1)∧Aside0 (w'.heap[gb485]? = some (.cells #[.int .i64 a0] 43 (0,0)))∧Aside0 (Below w.heap.size w w'))
  case atStart=>exact ⟨(y482),(0),RF,H',⟨Nat.le_refl _⟩,⟨by (with_reducible repeat (first|apply Kd.S_alloc|apply Kd.S_drewN|apply Kd.S_drew));exact Kd.S_mono (Kd.S_far (p:=⟨gb485,0,none⟩) (Kd.S_types HO484.out BK485.out (by decide)) (fun _ hk=>hk.2) (.int .i64 a0)) (fun _ hk=>trivial)⟩,⟨by (with_reducible repeat (first|refine blk_drewN ?_ _|refine blk_drew ?_|refine blk_alloc ?_ _));refine blk_put (cs:=#[.int .i64 0]) ?_ 0 _ rfl;(with_reducible repeat (first|refine blk_drewN ?_ _|refine blk_drew ?_|refine blk_alloc ?_ _));exact BK485.out⟩,⟨AGE GE485⟩⟩
  case round =>
   clear H';try clear c1
   try clear p2
   try clear c3
   try clear c4
   try clear p6
   try clear hcz8_0
   try clear hfz8_0
   obtain ⟨x6_1,x19_1,rfl,HA,HK1,HO_6,BK485,HB⟩:=hrel;cases gk with
   | zero=>exact absurd HA.out (by simp [impl_OppositeEdges.l0])
   | succ k1 =>
    have H:=HA.out;clear HA;simp only [impl_OppositeEdges.l0] at H;by_cases c9 : x19_1 < (l1.length : Int)
    ·rw [if_pos c9] at H;have c9b0:=DT c9;clear c9;have H':=AM H;clear H;go_wp2;go_loopg [6,9] k1 (fun kq v6 v9 w'=>∃ (x6_2 : List (List Int)) (x9_2 : Int),v9 = .int .i64 x9_2∧Aside0 (impl_OppositeEdges.l1 kq l1 x6_2 x19_1 x9_2 (l1.length : Int) x19_1 a0 = some (r1,r2))∧Aside0 (kq ≤ k1)∧Aside0 (Kd.S (Kd.slice 3 (Kd.int .i64)) 24 w' w.heap.size (fun _=>True) v6 x6_2)∧Aside0 (w'.heap[gb485]? = some (.cells #[.int .i64 a0] 43 (0,0)))∧Aside0 (Below w.heap.size w w'))
     case atStart=>exact ⟨(x6_1),(wrap64 (x19_1 + 1)),RF,H',⟨Nat.le_refl _⟩,⟨KS HO_6⟩,⟨by (with_reducible repeat (first|refine blk_drewN ?_ _|refine blk_drew ?_|refine blk_alloc ?_ _));exact BK485.out⟩,⟨AGE GE485⟩⟩
     case round =>
      clear H';try clear c1
      try clear p2
      try clear c3
      try clear c4
      try clear p6
      try clear c9
      try clear c9b0
      try clear hcz8_0
      try clear hfz8_0
      try clear p2
      try clear p6
      obtain ⟨x6_2,x9_2,rfl,HA,HK2,HO_6,BK485,HB⟩:=hrel;cases gk with
      | zero=>exact absurd HA.out (by simp [impl_OppositeEdges.l1])
      | succ k2 =>
       have H:=HA.out;clear HA;simp only [impl_OppositeEdges.l1] at H;by_cases c10 : x9_2 < (l1.length : Int)
       ·rw [if_pos c10] at H;have c10b0:=DT c10;clear c10;replace H:=EA H;obtain ⟨t486,A11,H⟩:=H;by_cases c12 : t486 = true
        ·subst c12;replace H:=IP H;replace H:=IC H;obtain ⟨c13,H⟩:=H;have c13b0:=DT c13;clear c13;replace H:=IC H;obtain ⟨c14,H⟩:=H;have c14b0:=DT c14;clear c14;replace H:=IC H;obtain ⟨c15,H⟩:=H;have c15b0:=DT c15;clear c15;by_cases c16 : (wrap64 ((rd l1 x19_1) + (rd l1 x9_2))) = 0
         ·rw [if_pos c16] at H;have c16b0:=QT c16;have c16b1:=bne_eq_false_iff_eq.mpr c16;clear c16;obtain ⟨y489,hy489⟩ : ∃ y_ : List Int,y_ = (([x19_1,x9_2] : List Int)):=⟨_,rfl⟩;replace H : (if x6_2.length < 5864062014805 then (impl_OppositeEdges.l1 k2 l1 (x6_2 ++ [y489]) x19_1 (wrap64 (x9_2 + 1)) (l1.length : Int) x19_1 a0) else (none)) = some (r1,r2):=HY H hy489;have Ny489:=AM hy489;clear hy489;replace H:=IC H;obtain ⟨c17,H⟩:=H;have LMc17:=AM c17;clear c17;obtain ⟨y492,hy492⟩ : ∃ y_ : List (List Int),y_ = (x6_2 ++ [y489]):=⟨_,rfl⟩;replace H : (impl_OppositeEdges.l1 k2 l1 y492 x19_1 (wrap64 (x9_2 + 1)) (l1.length : Int) x19_1 a0) = some (r1,r2):=HY H hy492;have Ny492:=AM hy492;clear hy492;have H':=AM H;clear H;try go_wp2
          replace HO_6:=AM (Kd.S_drew HO_6.out);replace BK485:=AM (blk_drew BK485.out);replace HB:=AM (below_drew1 HB.out);have p487 : 0 ≤ (x19_1 : Int):=OD AS;have q487 : x19_1 < (l1.length : Int):=OD AS;obtain ⟨ad487,e487,hx487_0⟩:=Kd.at_int HR1.out x19_1 p487 q487;have hw487_0:=hx487_0;cases e487;try (replace hx487_0:=LC hx487_0)
          replace p487:=ET p487;replace q487:=ET q487;have p488 : 0 ≤ (x9_2 : Int):=OD AS;have q488 : x9_2 < (l1.length : Int):=OD AS;obtain ⟨ad488,e488,hx488_0⟩:=Kd.at_int HR1.out x9_2 p488 q488;have hw488_0:=hx488_0;obtain rfl : ad487 = ad488:=(by injection e488);try (replace hx488_0:=LC hx488_0)
          replace p488:=ET p488;replace q488:=ET q488;refine PSt (n:=16) (S:=fun w'=>w'.cell? ⟨gb485,0,none⟩ = some (.int .i64 a0)∧w'.cell? (ad487.add (x19_1).toNat) = some (.int .i64 (rd l1 x19_1))∧w'.cell? (ad487.add (x9_2).toNat) = some (.int .i64 (rd l1 x9_2))) (ds:=[]) ⟨(BC BK485.out 0).trans rfl,LC hw487_0,LC hw488_0⟩ (fun hHeld=>?_);refine with_tabW impl_OppositeEdges.tab10 impl_OppositeEdges.bits10 (fun HT_ HW_=>?_);generalize wr.drew = w18 at HO_6 BK485 HB hx487_0 hx488_0 hHeld ⊢;refine PA 1 31 HT_ ?_;refine PA 2 32 HT_ ?_;refine PB 0 30 HT_ HW_ hHeld ?_;refine PC 3 33 HT_ (fun K hK=>?_);refine goes_ Try.func36 (by kernel_rfl) rfl #[.agg #[.int .i64 a0],.int .i64 x19_1,.int .i64 x9_2] (by rfl) rfl rfl TA ?_;with_reducible refine (impl_square_areNear.calls a0 x19_1 x9_2 true _ A11.out).mono ?_
          rintro e w19 ⟨rfl,hb⟩;refine ⟨_,rfl,?_⟩;replace HO_6:=SB HO_6 hb;replace BK485:=AM (blk_below (g:=gb485) (o:=.cells #[.int .i64 a0] 43 (0,0)) (BW BK485) hb);replace HB:=HG GE485 hb;try clear hb
          refine hK.out _ _ ⟨(BC BK485.out 0).trans rfl,LC hw487_0,LC hw488_0⟩ (fun hHeld=>?_);clear hK K;refine norm_ (a':=?_) ?_ ?_;rotate_left
          ·show Act.put _ (some 33) _ = _;simp only [Act.put,List.setIfInBounds_toArray,List.set_cons_zero,List.set_cons_succ,i64_w,i32_w];rfl
          refine PA 4 34 HT_ ?_;refine PA 5 35 HT_ ?_;refine PA 6 36 HT_ ?_;refine PA 7 37 HT_ ?_;refine PA 9 39 HT_ ?_;refine PA 10 40 HT_ ?_;refine PA 11 41 HT_ ?_;refine PB 8 38 HT_ HW_ hHeld ?_;refine PB 12 42 HT_ HW_ hHeld ?_;refine PA 13 43 HT_ ?_;refine PA 14 44 HT_ ?_;refine PA 15 45 HT_ ?_;refine done_ (done_of HT_.out (by kernel_rfl)) ?_;try go_wp2_with (first|((with_reducible refine gate_dst (N:=49) rfl ?_);refine Kd.R_lit (Kd.int .i64) _ 3 ?hg (N:=49) ?hd (xs:=([x19_1,x9_2] : List Int)) (inner:=[.int .i64 x19_1,.int .i64 x9_2]) (ok:=fun _=>True) (okp:=fun _=>True) ?hr ?hp (fun _ hk=>hk) trivial (Below.refl _ _) (Nat.le_refl _) (by simp) ?_;(case hd=>rfl);(case hg=>rfl);(case hr=>exact GS);(case hp=>exact (Reps.one (show Kd.M (Kd.int .i64) _ _ _ x19_1 [.int .i64 x19_1] from rfl) (Reps.one (show Kd.M (Kd.int .i64) _ _ _ x9_2 [.int .i64 x9_2] from rfl) (Reps.none _ _))));intro v490 w20 ho21 hb hg_ hnew_;clear hg_ hnew_;(first|rw [← Ny489.out] at ho21|(simp only [Int.reduceToNat] at ho21;rw [← Ny489.out] at ho21));replace HO_6:=SO HO_6 ho21 hb;have HO491:=AM (Kd.R_lower ho21 (BZ (AGE GE485)));replace BK485:=AM (blk_below (g:=gb485) (o:=.cells #[.int .i64 a0] 43 (0,0)) (BW BK485) hb);replace HB:=HG GE485 hb;clear hb ho21;obtain ⟨Ao23,co23,eo23⟩:=Kd.R_slice HO491.out;subst eo23)|((with_reducible refine gate_builtin (b:=.append) (xs:=#[.tmp 46,.tmp 50]) rfl ?_);at_builtin;refine Kd.S_append (Kd.slice 3 (Kd.int .i64)) (w0:=w) w.heap.size rfl (.tmp 46) (.tmp 50) 31 24 (.slice none 0 0) 24 rfl Try.underlying31 info24 rfl (by decide) (by omega) u6 x6_2 y489 [.slice Ao23 y489.length co23] (fun _=>True) (fun k_=>some k_ = (.slice Ao23 y489.length co23 : Value).ownBlock) rfl rfl ?aP (fun k_ hk_=>((Kd.R_mono (ok':=fun k_=>((fun _=>True)) k_∧some k_≠(u6 : Value).ownBlock) (Kd.R_apart' (HO491.out) (Kd.S_typed HO_6.out) (by decide)) (fun k_ hk=>⟨trivial,hk.2⟩))).1 k_ hk_.symm) ?aF ?aO ?aB ?aS ?aL ?_;(case aP=>exact Kd.M_row (Kd.R_mono (Kd.R_tight rfl (Kd.R_mono (ok':=fun k_=>((fun _=>True)) k_∧some k_≠(u6 : Value).ownBlock) (Kd.R_apart' (HO491.out) (Kd.S_typed HO_6.out) (by decide)) (fun k_ hk=>⟨trivial,hk.2⟩))) (fun _ h_=>h_)));(case aB=>exact (AGE GE485));(case aF=>exact (fun _ _=>trivial));(case aO=>exact (by (with_reducible repeat (first|apply Kd.S_alloc|apply Kd.S_drewN|apply Kd.S_drew));exact Kd.S_mono HO_6.out (fun k_ hk=>⟨trivial,fun e_=>hk.2 e_⟩)));(case aS=>exact (BZ (AGE GE485)));(case aL=>have:=LMc17.out;omega);intro v493 w22 ho hb hg hat;rw [← Ny492.out] at ho;replace BK485:=AM (blk_grown (g:=gb485) (o:=.cells #[.int .i64 a0] 43 (0,0)) (BW BK485) hg (Kd.S_ne HO_6.out BK485.out (by decide)));replace HB:=AM hb;have HO494:=AM ho;clear HO_6 HO491;clear ho hb hg hat))
          go_roundg k2
          case measure=>have:=HK1.out;have:=HK2.out;omega
          case rel=>exact ⟨(y492),(wrap64 (x9_2 + 1)),RF,H',⟨by have:=HK1.out;have:=HK2.out;omega⟩,⟨KS HO494⟩,⟨by (with_reducible repeat (first|refine blk_drewN ?_ _|refine blk_drew ?_|refine blk_alloc ?_ _));exact BK485.out⟩,⟨AGE GE485⟩⟩
         ·rw [if_neg c16] at H;have c16b0:=beq_eq_false_iff_ne.mpr c16;have c16b1:=bne_iff_ne.mpr c16;have H':=AM H;clear H;try go_wp2
          replace HO_6:=AM (Kd.S_drew HO_6.out);replace BK485:=AM (blk_drew BK485.out);replace HB:=AM (below_drew1 HB.out);have p487 : 0 ≤ (x19_1 : Int):=OD AS;have q487 : x19_1 < (l1.length : Int):=OD AS;obtain ⟨ad487,e487,hx487_0⟩:=Kd.at_int HR1.out x19_1 p487 q487;have hw487_0:=hx487_0;cases e487;try (replace hx487_0:=LC hx487_0)
          replace p487:=ET p487;replace q487:=ET q487;have p488 : 0 ≤ (x9_2 : Int):=OD AS;have q488 : x9_2 < (l1.length : Int):=OD AS;obtain ⟨ad488,e488,hx488_0⟩:=Kd.at_int HR1.out x9_2 p488 q488;have hw488_0:=hx488_0;obtain rfl : ad487 = ad488:=(by injection e488);try (replace hx488_0:=LC hx488_0)
          replace p488:=ET p488;replace q488:=ET q488;refine PSt (n:=16) (S:=fun w'=>w'.cell? ⟨gb485,0,none⟩ = some (.int .i64 a0)∧w'.cell? (ad487.add (x19_1).toNat) = some (.int .i64 (rd l1 x19_1))∧w'.cell? (ad487.add (x9_2).toNat) = some (.int .i64 (rd l1 x9_2))) (ds:=[]) ⟨(BC BK485.out 0).trans rfl,LC hw487_0,LC hw488_0⟩ (fun hHeld=>?_);refine with_tabW impl_OppositeEdges.tab10 impl_OppositeEdges.bits10 (fun HT_ HW_=>?_);generalize wr.drew = w24 at HO_6 BK485 HB hx487_0 hx488_0 hHeld ⊢;refine PA 1 31 HT_ ?_;refine PA 2 32 HT_ ?_;refine PB 0 30 HT_ HW_ hHeld ?_;refine PC 3 33 HT_ (fun K hK=>?_);refine goes_ Try.func36 (by kernel_rfl) rfl #[.agg #[.int .i64 a0],.int .i64 x19_1,.int .i64 x9_2] (by rfl) rfl rfl TA ?_;with_reducible refine (impl_square_areNear.calls a0 x19_1 x9_2 true _ A11.out).mono ?_
          rintro e w25 ⟨rfl,hb⟩;refine ⟨_,rfl,?_⟩;replace HO_6:=SB HO_6 hb;replace BK485:=AM (blk_below (g:=gb485) (o:=.cells #[.int .i64 a0] 43 (0,0)) (BW BK485) hb);replace HB:=HG GE485 hb;try clear hb
          refine hK.out _ _ ⟨(BC BK485.out 0).trans rfl,LC hw487_0,LC hw488_0⟩ (fun hHeld=>?_);clear hK K;refine norm_ (a':=?_) ?_ ?_;rotate_left
          ·show Act.put _ (some 33) _ = _;simp only [Act.put,List.setIfInBounds_toArray,List.set_cons_zero,List.set_cons_succ,i64_w,i32_w];rfl
          refine PA 4 34 HT_ ?_;refine PA 5 35 HT_ ?_;refine PA 6 36 HT_ ?_;refine PA 7 37 HT_ ?_;refine PA 9 39 HT_ ?_;refine PA 10 40 HT_ ?_;refine PA 11 41 HT_ ?_;refine PB 8 38 HT_ HW_ hHeld ?_;refine PB 12 42 HT_ HW_ hHeld ?_;refine PA 13 43 HT_ ?_;refine PA 14 44 HT_ ?_;refine PA 15 45 HT_ ?_;refine done_ (done_of HT_.out (by kernel_rfl)) ?_;try go_wp2
          go_roundg k2
          case measure=>have:=HK1.out;have:=HK2.out;omega
          case rel=>exact ⟨(x6_2),(wrap64 (x9_2 + 1)),RF,H',⟨by have:=HK1.out;have:=HK2.out;omega⟩,⟨KS HO_6⟩,⟨by (with_reducible repeat (first|refine blk_drewN ?_ _|refine blk_drew ?_|refine blk_alloc ?_ _));exact BK485.out⟩,⟨AGE GE485⟩⟩
        ·replace c12:=NF c12;subst c12;replace H:=IN H;have H':=AM H;clear H;try go_wp2
         replace HO_6:=AM (Kd.S_drew HO_6.out);replace BK485:=AM (blk_drew BK485.out);replace HB:=AM (below_drew1 HB.out);refine PSt (n:=16) (S:=fun w'=>w'.cell? ⟨gb485,0,none⟩ = some (.int .i64 a0)) (ds:=[]) ((BC BK485.out 0).trans rfl) (fun hHeld=>?_);refine with_tabW impl_OppositeEdges.tab10 impl_OppositeEdges.bits10 (fun HT_ HW_=>?_);generalize wr.drew = w26 at HO_6 BK485 HB hHeld ⊢;refine PA 1 31 HT_ ?_;refine PA 2 32 HT_ ?_;refine take_ (i:=0) (N:=some 30) (v:=?_) (a':=?_) #[true,true,true,false,false,false,false,false,false,false,false,false,false,false,false,false] rfl rfl (take_ofW HT_.out HW_.out (by kernel_rfl)) (fun _ _ _ h=>h) (Or.inl ⟨by rfl,?_⟩) hHeld ?_ ?_;rotate_left
         ·intro w' s0;go_simp;with_reducible rfl
         rotate_left
         ·exact PU
         refine PC 3 33 HT_ (fun K hK=>?_);refine goes_ Try.func36 (by kernel_rfl) rfl #[.agg #[.int .i64 a0],.int .i64 x19_1,.int .i64 x9_2] (by rfl) rfl rfl TA ?_;with_reducible refine (impl_square_areNear.calls a0 x19_1 x9_2 false _ A11.out).mono ?_
         rintro e w27 ⟨rfl,hb⟩;refine ⟨_,rfl,?_⟩;replace HO_6:=SB HO_6 hb;replace BK485:=AM (blk_below (g:=gb485) (o:=.cells #[.int .i64 a0] 43 (0,0)) (BW BK485) hb);replace HB:=HG GE485 hb;try clear hb
         refine hK.out _ _ ((BC BK485.out 0).trans rfl) (fun hHeld=>?_);clear hK K;refine norm_ (a':=?_) ?_ ?_;rotate_left
         ·show Act.put _ (some 33) _ = _;simp only [Act.put,List.setIfInBounds_toArray,List.set_cons_zero,List.set_cons_succ,i64_w,i32_w];rfl
         refine PA 4 34 HT_ ?_;refine pure_ (i:=5) (N:=some 35) (v:=undef) (a':=?_) #[true,true,true,true,true,true,false,false,false,false,false,false,false,false,false,false] rfl rfl (any_of HT_.out (by kernel_rfl)) (fun _ _ _ h=>h) (Or.inr ⟨by rfl,rfl⟩) ?_ ?_;rotate_left
         ·exact PU
         refine pure_ (i:=6) (N:=some 36) (v:=undef) (a':=?_) #[true,true,true,true,true,true,true,false,false,false,false,false,false,false,false,false] rfl rfl (any_of HT_.out (by kernel_rfl)) (fun _ _ _ h=>h) (Or.inr ⟨by rfl,rfl⟩) ?_ ?_;rotate_left
         ·exact PU
         refine pure_ (i:=7) (N:=some 37) (v:=undef) (a':=?_) #[true,true,true,true,true,true,true,true,false,false,false,false,false,false,false,false] rfl rfl (any_of HT_.out (by kernel_rfl)) (fun _ _ _ h=>h) (Or.inr ⟨by rfl,rfl⟩) ?_ ?_;rotate_left
         ·exact PU
         refine pure_ (i:=8) (N:=some 38) (v:=undef) (a':=?_) #[true,true,true,true,true,true,true,true,true,false,false,false,false,false,false,false] rfl rfl (any_of HT_.out (by kernel_rfl)) (fun _ _ _ h=>h) (Or.inr ⟨by rfl,rfl⟩) ?_ ?_;rotate_left
         ·exact PU
         refine pure_ (i:=9) (N:=some 39) (v:=undef) (a':=?_) #[true,true,true,true,true,true,true,true,true,true,false,false,false,false,false,false] rfl rfl (any_of HT_.out (by kernel_rfl)) (fun _ _ _ h=>h) (Or.inr ⟨by rfl,rfl⟩) ?_ ?_;rotate_left
         ·exact PU
         refine pure_ (i:=10) (N:=some 40) (v:=undef) (a':=?_) #[true,true,true,true,true,true,true,true,true,true,true,false,false,false,false,false] rfl rfl (any_of HT_.out (by kernel_rfl)) (fun _ _ _ h=>h) (Or.inr ⟨by rfl,rfl⟩) ?_ ?_;rotate_left
         ·exact PU
         refine pure_ (i:=11) (N:=some 41) (v:=undef) (a':=?_) #[true,true,true,true,true,true,true,true,true,true,true,true,false,false,false,false] rfl rfl (any_of HT_.out (by kernel_rfl)) (fun _ _ _ h=>h) (Or.inr ⟨by rfl,rfl⟩) ?_ ?_;rotate_left
         ·exact PU
         refine pure_ (i:=12) (N:=some 42) (v:=undef) (a':=?_) #[true,true,true,true,true,true,true,true,true,true,true,true,true,false,false,false] rfl rfl (any_of HT_.out (by kernel_rfl)) (fun _ _ _ h=>h) (Or.inr ⟨by rfl,rfl⟩) ?_ ?_;rotate_left
         ·exact PU
         refine pure_ (i:=13) (N:=some 43) (v:=undef) (a':=?_) #[true,true,true,true,true,true,true,true,true,true,true,true,true,true,false,false] rfl rfl (any_of HT_.out (by kernel_rfl)) (fun _ _ _ h=>h) (Or.inr ⟨by rfl,rfl⟩) ?_ ?_;rotate_left
         ·exact PU
         refine pure_ (i:=14) (N:=some 44) (v:=undef) (a':=?_) #[true,true,true,true,true,true,true,true,true,true,true,true,true,true,true,false] rfl rfl (any_of HT_.out (by kernel_rfl)) (fun _ _ _ h=>h) (Or.inr ⟨by rfl,rfl⟩) ?_ ?_;rotate_left
         ·exact PU
         refine PA 15 45 HT_ ?_;refine done_ (done_of HT_.out (by kernel_rfl)) ?_;try go_wp2
         go_roundg k2
         case measure=>have:=HK1.out;have:=HK2.out;omega
         case rel=>exact ⟨(x6_2),(wrap64 (x9_2 + 1)),RF,H',⟨by have:=HK1.out;have:=HK2.out;omega⟩,⟨KS HO_6⟩,⟨by (with_reducible repeat (first|refine blk_drewN ?_ _|refine blk_drew ?_|refine blk_alloc ?_ _));exact BK485.out⟩,⟨AGE GE485⟩⟩
       ·rw [if_neg c10] at H;have c10b0:=DF c10;clear c10;have H':=AM H;clear H;go_wp2;go_roundg k2
        case measure=>have:=HK1.out;have:=HK2.out;omega
        case rel=>exact ⟨(x6_2),(wrap64 (x19_1 + 1)),RF,H',⟨by have:=HK1.out;have:=HK2.out;omega⟩,⟨KS HO_6⟩,⟨by (with_reducible repeat (first|refine blk_drewN ?_ _|refine blk_drew ?_|refine blk_alloc ?_ _));exact BK485.out⟩,⟨AGE GE485⟩⟩
    ·rw [if_neg c9] at H;have c9b0:=DF c9;clear c9;simp only [Option.some.injEq,Prod.mk.injEq] at H;obtain ⟨rfl,rfl⟩:=H;go_wp2;go_ret2;exact ⟨_,RE,KS HO_6,AGE GE485⟩
 ·replace c4:=NF c4;subst c4;replace H:=IN H;simp only [Option.some.injEq,Prod.mk.injEq] at H;obtain ⟨rfl,rfl⟩:=H;go_enter Try.func10,Try.ntmps10;go_wp2_with (first|(refine GC 35 ?_;refine GM (some 12) Try.func35 (impl_areSigns.calls k a0 _ _ l1 false _ (CW HR1.out) HC1.out A3.out) ?_;rintro e w' ⟨rfl,⟨nd,rfl⟩⟩;refine ⟨_,rfl,?_⟩));go_ret2;exact ⟨_,RE,by first|exact Kd.S_nil _ _ _ _ _|exact Kd.N_nil _ _ _ _ _|exact Kd.V_nil _ _ _ _ _|exact Kd.Q_nil _ _ _ _ _|exact Kd.R_nil _ _ _ _ _,BB⟩

end Go.Proofs.Ytlolkkfpfjlhmaa.PFnOppositeEdgesFound
