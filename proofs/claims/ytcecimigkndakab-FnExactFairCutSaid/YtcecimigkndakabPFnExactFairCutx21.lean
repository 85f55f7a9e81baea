-- Written by a program of this session (wip/tools/pp.sh) out of the translation; Lean checks it.
import Derived.Test.YtcecimigkndakabPFnExactFairCutx19
import Derived.Test.YtcecimigkndakabPFnExactFairCutx20
namespace Go.Proofs.Ytcecimigkndakab.PFnExactFairCut
open Go.RowKit Go.Proofs.YtcecimigkndakabOwn Go.Proofs.YtcecimigkndakabW.PrintWords Go.Proofs.YtcecimigkndakabW.PrintLast Go.Proofs.YtcecimigkndakabW.PrintMore
attribute [local go_sem] max2_int min2_int max_two min_two max_three min_three max_four min_four   -- for this text's walks alone
set_option linter.unusedVariables false
set_option maxHeartbeats 8000000
set_option maxRecDepth 100000
set_option linter.unusedSimpArgs false

/-! ### laws_FnExactFairCut: function 3 -/
mutual
def laws_FnExactFairCut.j0 : Nat→Int→List (List Int)→Int→List Int→Bool→List (List Int)→Int→List Int→Bool→Bool→Option (Bool)
 | 0,_,_,_,_,_,_,_,_,_,_=>none
 | k + 1,x0,x1,x6,x7,x8,x9,x10,x11,x12,x54=>if x54 = true then (none) else ((laws_toIntSS.f k x1).bind fun t547=>((laws_eqIntSS.f k x9 t547).bind fun t550=>(if t550 = true then ((laws_markIntSS.f k x9 1).bind fun t551=>(if t551 < 0 then (none) else (if x10 = x6 then ((laws_eqIntS.f k x11 x7).bind fun t552=>(if t552 = true then (laws_FnExactFairCut.j1 k x0 x1 x6 x7 x8 x11 (x12 != x8)) else (none))) else (none)))) else (none))))
def laws_FnExactFairCut.j1 : Nat→Int→List (List Int)→Int→List Int→Bool→List Int→Bool→Option (Bool)
 | 0,_,_,_,_,_,_,_=>none
 | k + 1,x0,x1,x6,x7,x8,x11,x80=>if x80 = true then (none) else ((laws_markIntS.f k x11 1).bind fun bt553=>((laws_heldIntS.f k bt553.2 1).bind fun t555=>(if t555 < 0 then (none) else (if t555 = bt553.1 then ((laws_toIntSS.f k x1).bind fun t556=>((impl_FairCut.f k x0 t556).bind fun bt559=>(if bt559.1 = x6 then ((laws_eqIntS.f k bt559.2.1 x7).bind fun t564=>(if t564 = true then (laws_FnExactFairCut.j2 k bt553.2 bt553.1 (bt559.2.2 != x8)) else (none))) else (none)))) else (none)))))
def laws_FnExactFairCut.j2 : Nat→List Int→Int→Bool→Option (Bool)
 | 0,_,_,_=>none
 | k + 1,x11,x14,x113=>if x113 = true then (none) else ((laws_heldIntS.f k x11 1).bind fun t565=>(if t565 < 0 then (none) else (if t565 = x14 then (some true) else (none))))
end
def laws_FnExactFairCut.f (k : Nat) (a0 : Int) (l1 : List (List Int)) : Option (Bool):=(laws_szIntSS.f k l1 1048576).bind fun t529=>(if t529 < 0 then (some true) else ((laws_toIntSS.f k l1).bind fun t530=>((spec_FairCut.f k a0 t530).bind fun bt533=>((laws_toIntSS.f k l1).bind fun t538=>((impl_FairCut.f k a0 t538).bind fun bt541=>(if bt541.1 = bt533.1 then ((laws_eqIntS.f k bt541.2.1 bt533.2.1).bind fun t546=>(if t546 = true then (laws_FnExactFairCut.j0 k a0 l1 bt533.1 bt533.2.1 bt533.2.2 t538 bt541.1 bt541.2.1 bt541.2.2 (bt541.2.2 != bt533.2.2)) else (none))) else (none)))))))
theorem laws_FnExactFairCut.mono_l : ∀ k,(∀ y0 y1 y2 y3 y4 y5 y6 y7 y8 y9,LeO (laws_FnExactFairCut.j0 k y0 y1 y2 y3 y4 y5 y6 y7 y8 y9) (laws_FnExactFairCut.j0 (k + 1) y0 y1 y2 y3 y4 y5 y6 y7 y8 y9))∧(∀ y0 y1 y2 y3 y4 y5 y6,LeO (laws_FnExactFairCut.j1 k y0 y1 y2 y3 y4 y5 y6) (laws_FnExactFairCut.j1 (k + 1) y0 y1 y2 y3 y4 y5 y6))∧(∀ y0 y1 y2,LeO (laws_FnExactFairCut.j2 k y0 y1 y2) (laws_FnExactFairCut.j2 (k + 1) y0 y1 y2))
 | 0=>⟨fun _ _ _ _ _ _ _ _ _ _=>LZ,fun _ _ _ _ _ _ _=>LZ,fun _ _ _=>LZ⟩
 | k + 1=>by
  obtain ⟨ih0,ih1,ih2⟩:=laws_FnExactFairCut.mono_l k
  have m0:=@impl_FairCut.mono
  have m1:=@laws_eqIntS.mono
  have m2:=@laws_eqIntSS.mono
  have m3:=@laws_heldIntS.mono
  have m4:=@laws_markIntS.mono
  have m5:=@laws_markIntSS.mono
  have m6:=@laws_szIntSS.mono
  have m7:=@laws_toIntSS.mono
  have m8:=@spec_FairCut.mono
  refine ⟨?_,?_,?_⟩ <;> intros
  all_goals (first|unfold laws_FnExactFairCut.j0|unfold laws_FnExactFairCut.j1|unfold laws_FnExactFairCut.j2)
  all_goals exact MO
theorem laws_FnExactFairCut.mono : ∀ a0 a1 k,LeO (laws_FnExactFairCut.f k a0 a1) (laws_FnExactFairCut.f (k + 1) a0 a1):=by
 intro a0 a1 k;obtain ⟨ih0,ih1,ih2⟩:=laws_FnExactFairCut.mono_l k;unfold laws_FnExactFairCut.f
 have m0:=@impl_FairCut.mono
 have m1:=@laws_eqIntS.mono
 have m2:=@laws_eqIntSS.mono
 have m3:=@laws_heldIntS.mono
 have m4:=@laws_markIntS.mono
 have m5:=@laws_markIntSS.mono
 have m6:=@laws_szIntSS.mono
 have m7:=@laws_toIntSS.mono
 have m8:=@spec_FairCut.mono
 exact MO
theorem laws_FnExactFairCut.calls (k : Nat) (a0 : Int) (A1 : Option Addr) (c1 : Nat) (l1 : List (List Int)) (r : Bool) (w : World) (hr1 : Kd.C (Kd.slice 3 (Kd.int .i64)) w A1 l1.length l1) (hc1 : l1.length ≤ c1) (h : laws_FnExactFairCut.f k a0 l1 = some r) :
  Calls Try.prog 3 #[.int .i64 a0,.slice A1 l1.length c1] w fun e w'=>e = .returned (.bool r)∧Below w.heap.size w w':=by
 have HR1:=AM hr1;have HC1:=AM hc1;clear hr1 hc1;have HB:=HRf w;have H : ((laws_szIntSS.f k l1 1048576).bind fun t529=>(if t529 < 0 then (some true) else ((laws_toIntSS.f k l1).bind fun t530=>((spec_FairCut.f k a0 t530).bind fun bt533=>((laws_toIntSS.f k l1).bind fun t538=>((impl_FairCut.f k a0 t538).bind fun bt541=>(if bt541.1 = bt533.1 then ((laws_eqIntS.f k bt541.2.1 bt533.2.1).bind fun t546=>(if t546 = true then (laws_FnExactFairCut.j0 k a0 l1 bt533.1 bt533.2.1 bt533.2.2 t538 bt541.1 bt541.2.1 bt541.2.2 (bt541.2.2 != bt533.2.2)) else (none))) else (none)))))))) = some r:=h;clear h;replace H:=EA H;obtain ⟨t529,A3,H⟩:=H;by_cases c4 : t529 < 0
 ·rw [if_pos c4] at H;have c4b0:=DT c4;clear c4;obtain rfl:=Option.some.inj H;go_enter Try.func3,Try.ntmps3;go_wp2_with (first|(refine GC 4 ?_;refine GM (some 21) Try.func4 (laws_szIntSS.calls k _ _ l1 1048576 t529 _ ?side1 ?side2 A3.out) ?_;(case side1=>exact CW HR1.out);(case side2=>exact HC1.out);rintro e w' ⟨rfl,⟨nd,rfl⟩⟩;refine ⟨_,rfl,?_⟩));go_ret;exact ⟨RE,BB⟩
 ·rw [if_neg c4] at H;have c4b0:=DF c4;clear c4;replace H:=EA H;obtain ⟨t530,A5,H⟩:=H;replace H:=EA H;obtain ⟨⟨t533,t534,t535⟩,A6,H⟩:=H;try dsimp only at H
  replace H:=EA H;obtain ⟨t538,A7,H⟩:=H;replace H:=EA H;obtain ⟨⟨t541,t542,t543⟩,A8,H⟩:=H;try dsimp only at H
  have HC9:=AM H;clear H;go_enter Try.func3,Try.ntmps3;go_upto_region 8 with (first|(refine GC 4 ?_;refine GM (some 21) Try.func4 (laws_szIntSS.calls k _ _ l1 1048576 t529 _ ?side1 ?side2 A3.out) ?_;(case side1=>exact CW HR1.out);(case side2=>exact HC1.out);rintro e w' ⟨rfl,⟨nd,rfl⟩⟩;refine ⟨_,rfl,?_⟩)|(refine GC 6 ?_;refine GM (some 27) Try.func6 (laws_toIntSS.calls k _ _ l1 t530 _ ?side1 ?side2 A5.out) ?_;(case side1=>exact CW HR1.out);(case side2=>exact HC1.out);rintro e w10 ⟨v531,rfl,ho0,hb⟩;refine ⟨_,rfl,?_⟩;have HO532:=AM (Kd.S_lower ho0 (BZ BB));replace HB:=HS hb;try clear hb ho0;obtain ⟨Ao11,co11,eo11⟩:=Kd.S_slice HO532.out;subst eo11)|(refine GC 5 ?_;refine GM (some 28) Try.func5 (spec_FairCut.calls k a0 _ _ t530 t533 t534 t535 _ (CW (Kd.S_reads' HO532.out).2.2) ((Kd.S_reads' HO532.out).2.1) A6.out) ?_;rintro e w12 ⟨v536,rfl,ho0,hb⟩;refine ⟨_,rfl,?_⟩;replace HO532:=SO HO532 ho0 hb;have HO537:=AM (Kd.R_lower ho0 (BZ BB));replace HB:=HS hb;try clear hb ho0)|(refine GC 6 ?_;refine GM (some 33) Try.func6 (laws_toIntSS.calls k _ _ l1 t538 _ ?side1 ?side2 A7.out) ?_;(case side1=>exact CW (Kd.C_below HR1.out HB.out));(case side2=>exact HC1.out);rintro e w13 ⟨v539,rfl,ho0,hb⟩;refine ⟨_,rfl,?_⟩;have HO540:=AM (Kd.S_lower (Kd.S_new' (Kd.S_new' ho0 (Kd.S_lt (KS HO532))) (Kd.R_lt (KR HO537))) (BZ BB));replace HO532:=AM (Kd.S_elder' (KS HO532) (Kd.S_base ho0) hb);replace HO537:=RB HO537 hb;replace HB:=HS hb;try clear hb ho0;obtain ⟨Ao14,co14,eo14⟩:=Kd.S_slice HO540.out;subst eo14)|(refine GC 7 ?_;refine GM (some 37) Try.func7 (impl_FairCut.calls k a0 _ _ t538 t541 t542 t543 _ (CW (Kd.S_reads' HO540.out).2.2) ((Kd.S_reads' HO540.out).2.1) A8.out) ?_;rintro e w15 ⟨v544,rfl,ho0,hb⟩;refine ⟨_,rfl,?_⟩;replace HO532:=SO HO532 ho0 hb;replace HO540:=SO HO540 ho0 hb;have HO545:=AM (Kd.R_lower (Kd.R_new' ho0 (Kd.R_lt (KR HO537))) (BZ BB));replace HO537:=RO HO537 ho0 hb;replace HB:=HS hb;try clear hb ho0))
  (try simp only [Act.put,List.setIfInBounds_toArray,List.set_cons_zero,List.set_cons_succ]);go_cut [54] (fun v54 wc=>∃ (kq : Nat) (x54_8 : Bool),v54 = .bool x54_8∧Aside0 (laws_FnExactFairCut.j0 kq a0 l1 t533 t534 t535 t538 t541 t542 t543 x54_8 = some r)∧Aside0 (kq ≤ k)∧Aside0 (Kd.R (Kd.int .i64) 3 wc w.heap.size (fun k_=>some k_≠(v544 : Value).ownBlock) v536 t534)∧Aside0 (Kd.S (Kd.slice 3 (Kd.int .i64)) 24 wc w.heap.size (fun k_=>some k_≠(v536 : Value).ownBlock∧some k_≠(v544 : Value).ownBlock) (.slice Ao14 t538.length co14) t538)∧Aside0 (Kd.R (Kd.int .i64) 3 wc w.heap.size (fun k_=>some k_≠(v536 : Value).ownBlock) v544 t542)∧Aside0 (Below w.heap.size w wc))
  case first=>as_aux_lemma =>
   have H:=HC9.out;clear HC9;replace H:=IC H;obtain ⟨c16,H⟩:=H;have c16b0:=QT c16;have c16b1:=bne_eq_false_iff_eq.mpr c16;clear c16
   (first|rw [c16b0]|(simp only [i64_w,i32_w];rw [c16b0])|skip);replace H:=EA H;obtain ⟨t546,A17,H⟩:=H;replace H:=IC H;obtain ⟨rfl,H⟩:=H;have H':=AM H;clear H;obtain ⟨Ao19,co19,eo19⟩:=Kd.R_slice HO545.out;subst eo19;obtain ⟨Ao20,co20,eo20⟩:=Kd.R_slice HO537.out;subst eo20;go_wp2_with (first|(go_at_call 8;(with_reducible refine (laws_eqIntS.calls k _ _ t542 _ _ t534 true _ (CW (Kd.R_reads' HO545.out).2.2) ((Kd.R_reads' HO545.out).2.1) (CW (Kd.R_reads' HO537.out).2.2) ((Kd.R_reads' HO537.out).2.1) A17.out).mono ?_);rintro e w' ⟨rfl,⟨nd,rfl⟩⟩));go_meet
   case rel=>exact ⟨_,((t543 != t535)),RF,H',⟨by first|omega|exact Nat.le_refl _⟩,⟨by (with_reducible repeat (first|apply Kd.R_alloc|apply Kd.R_drewN|apply Kd.R_drew));exact Kd.R_mono HO537.out (fun _ hk=>hk.2)⟩,⟨by (with_reducible repeat (first|apply Kd.S_alloc|apply Kd.S_drewN|apply Kd.S_drew));exact Kd.S_mono HO540.out (fun _ hk=>⟨hk.1.2,hk.2⟩)⟩,⟨by (with_reducible repeat (first|apply Kd.R_alloc|apply Kd.R_drewN|apply Kd.R_drew));exact Kd.R_mono HO545.out (fun _ hk=>hk.2)⟩,⟨BB⟩⟩
  case rest=>as_aux_lemma =>
   clear HC9;try clear c1
   try clear p2
   try clear c3
   try clear c4
   try clear c4b0
   try clear c5
   try clear c6
   try clear p6
   try clear c7
   try clear c16
   try clear c16b0
   try clear c16b1
   try clear c18
   obtain ⟨kq,x54_8,rfl,HA,HJ8,HO_7,HO_9,HO_11,HB⟩:=hcut;cases kq with
   | zero=>exact absurd HA.out (by simp [laws_FnExactFairCut.j0])
   | succ kj8 =>
    have H:=HA.out;clear HA;simp only [laws_FnExactFairCut.j0] at H;replace H:=IE H;obtain ⟨rfl,H⟩:=H;replace H:=EA H;obtain ⟨t547,A22,H⟩:=H;replace H:=EA H;obtain ⟨t550,A23,H⟩:=H;replace H:=IC H;obtain ⟨rfl,H⟩:=H;replace H:=EA H;obtain ⟨t551,A25,H⟩:=H;have HC26:=AM H;clear H;go_upto_region 14 with (first|(refine GC 6 ?_;refine GM (some 57) Try.func6 (laws_toIntSS.calls kj8 _ _ l1 t547 _ (CW (Kd.C_below HR1.out HB.out)) HC1.out A22.out) ?_;rintro e w27 ⟨v548,rfl,ho0,hb⟩;refine ⟨_,rfl,?_⟩;have HO549:=AM (Kd.S_lower (Kd.S_new' (Kd.S_new' (Kd.S_new' ho0 (Kd.R_lt (KR HO_7))) (Kd.S_lt (KS HO_9))) (Kd.R_lt (KR HO_11))) (BZ BB));replace HO_7:=RB HO_7 hb;replace HO_9:=AM (Kd.S_elder' (KS HO_9) (Kd.S_base ho0) hb);replace HO_11:=RB HO_11 hb;replace HB:=HS hb;try clear hb ho0;obtain ⟨Ao28,co28,eo28⟩:=Kd.S_slice HO549.out;subst eo28)|(refine GC 9 ?_;refine GM (some 58) Try.func9 (laws_eqIntSS.calls kj8 _ _ t538 _ _ t547 true _ (CW (Kd.S_reads' HO_9.out).2.2) ((Kd.S_reads' HO_9.out).2.1) (CW (Kd.S_reads' HO549.out).2.2) ((Kd.S_reads' HO549.out).2.1) A23.out) ?_;rintro e w' ⟨rfl,⟨nd,rfl⟩⟩;refine ⟨_,rfl,?_⟩)|(refine GC 10 ?_;refine GL (some 62) Try.func10 #[.slice Ao14 t538.length co14,.int .i64 1] ?_;refine (laws_markIntSS.calls kj8 _ (.slice Ao14 t538.length co14) t538 1 t551 w _ BB (KS HO_9) A25.out).mono ?_;rintro e w29 ⟨rfl,hb,hkp⟩;refine ⟨_,rfl,?_⟩;replace HO_7:=AM (Kd.R_mono (Kd.R_kept (Kd.R_tight (d:=Kd.int .i64) rfl (KR HO_7)) hkp (fun k_ hk hs=>hs.1.1 hk)) (fun k_ hk=>HO_7.out.1 k_ hk.symm));replace HO_11:=AM (Kd.R_mono (Kd.R_kept (Kd.R_tight (d:=Kd.int .i64) rfl (KR HO_11)) hkp (fun k_ hk hs=>hs.1.2 hk)) (fun k_ hk=>HO_11.out.1 k_ hk.symm));replace HB:=AM hb;clear hb hkp HO_9 HO549))
    (try simp only [Act.put,List.setIfInBounds_toArray,List.set_cons_zero,List.set_cons_succ]);go_cut [80] (fun v80 wc=>∃ (kq : Nat) (x80_25 : Bool),v80 = .bool x80_25∧Aside0 (laws_FnExactFairCut.j1 kq a0 l1 t533 t534 t535 t542 x80_25 = some r)∧Aside0 (kq ≤ kj8)∧Aside0 (Kd.R (Kd.int .i64) 3 wc w.heap.size (fun k_=>some k_≠(v544 : Value).ownBlock) v536 t534)∧Aside0 (Kd.R (Kd.int .i64) 3 wc w.heap.size (fun k_=>some k_≠(v536 : Value).ownBlock) v544 t542)∧Aside0 (Below w.heap.size w wc))
    case first=>as_aux_lemma =>
     have H:=HC26.out;clear HC26;replace H:=ID H;obtain ⟨c30,H⟩:=H;have c30b0:=DF c30;clear c30
     (first|rw [c30b0]|(simp only [i64_w,i32_w];rw [c30b0])|skip);replace H:=IC H;obtain ⟨c31,H⟩:=H;have c31b0:=QT c31;have c31b1:=bne_eq_false_iff_eq.mpr c31;clear c31;replace H:=EA H;obtain ⟨t552,A32,H⟩:=H;replace H:=IC H;obtain ⟨rfl,H⟩:=H;have H':=AM H;clear H;obtain ⟨Ao34,co34,eo34⟩:=Kd.R_slice HO_11.out;subst eo34;obtain ⟨Ao35,co35,eo35⟩:=Kd.R_slice HO_7.out;subst eo35;go_wp2_with (first|(go_at_call 8;(with_reducible refine (laws_eqIntS.calls kj8 _ _ t542 _ _ t534 true _ (CW (Kd.R_reads' HO_11.out).2.2) ((Kd.R_reads' HO_11.out).2.1) (CW (Kd.R_reads' HO_7.out).2.2) ((Kd.R_reads' HO_7.out).2.1) A32.out).mono ?_);rintro e w' ⟨rfl,⟨nd,rfl⟩⟩));go_meet
     case rel=>exact ⟨_,((t543 != t535)),RF,H',⟨by have:=HJ8.out;first|omega|exact Nat.le_refl _⟩,⟨KR HO_7⟩,⟨KR HO_11⟩,⟨BB⟩⟩
    case rest=>as_aux_lemma =>
     clear HC26;try clear c1
     try clear c2
     try clear p2
     try clear c3
     try clear c4
     try clear c4b0
     try clear c5
     try clear c6
     try clear p6
     try clear c7
     try clear c9
     try clear c10
     try clear c16
     try clear c16b0
     try clear c16b1
     try clear c18
     try clear c21
     try clear c24
     try clear c30
     try clear c30b0
     try clear c31
     try clear c31b0
     try clear c31b1
     try clear c33
     try clear p2
     try clear p6
     obtain ⟨kq,x80_25,rfl,HA,HJ25,HO_7,HO_11,HB⟩:=hcut;cases kq with
     | zero=>exact absurd HA.out (by simp [laws_FnExactFairCut.j1])
     | succ kj25 =>
      have H:=HA.out;clear HA;simp only [laws_FnExactFairCut.j1] at H;replace H:=IE H;obtain ⟨rfl,H⟩:=H;replace H:=EA H;obtain ⟨⟨t553,t554⟩,A37,H⟩:=H;try dsimp only at H
      replace H:=EA H;obtain ⟨t555,A38,H⟩:=H;replace H:=ID H;obtain ⟨c39,H⟩:=H;have c39b0:=DF c39;clear c39;replace H:=IC H;obtain ⟨c40,H⟩:=H;have c40b0:=QT c40;have c40b1:=bne_eq_false_iff_eq.mpr c40;clear c40;replace H:=EA H;obtain ⟨t556,A41,H⟩:=H;replace H:=EA H;obtain ⟨⟨t559,t560,t561⟩,A42,H⟩:=H;try dsimp only at H
      have HC43:=AM H;clear H;obtain ⟨Ao44,co44,eo44⟩:=Kd.R_slice HO_11.out;subst eo44;go_upto_region 25 with (first|(refine GC 11 ?_;refine GM (some 83) Try.func11 (laws_markIntS.calls kj25 (fun k_=>some k_ = (.slice Ao44 t542.length co44 : Value).ownBlock) (.slice Ao44 t542.length co44) t542 1 t553 t554 w _ ?side1 ?side2 A37.out) ?_;(case side1=>repeat (first|(with_reducible first|exact HB.out|apply below_alloc|apply pw_below_drewN|apply below_drew1)|exact HB.out));(case side2=>exact Kd.R_tight rfl HO_11.out);rintro e w45 ⟨rfl,hy0,hb,hkp⟩;refine ⟨_,rfl,?_⟩;replace HO_7:=AM (Kd.R_mono (ok':=fun k_=>some k_≠(.slice Ao44 t542.length co44 : Value).ownBlock) (Kd.R_keptB (HO_7.out) hkp (fun k_ hk_ hs_=>(hk_) hs_)) (fun k_ hk_=>hk_.1));replace HO_11:=AM (Kd.R_reok rfl hy0 (fun k_ e_=>HO_11.out.1 k_ e_));replace HB:=AM hb;try clear hb hkp hy0)|((with_reducible refine gate_callee (f:=12) rfl ?_);refine goesL_ (some 86) rfl rfl Try.func12 (by kernel_rfl) rfl #[.slice Ao44 t554.length co44,.int .i64 1] rfl (by (try simp only [List.map_toArray,List.map_cons,List.map_nil]);first|done|(rw [show t554.length = t542.length from (Kd.R_reads' HO_11.out).1.symm] <;> rfl)|rfl|(simp only [List.length_drop,List.length_take];rfl)) ?_;(with_reducible refine (laws_heldIntS.calls kj25 _ _ t554 1 t555 _ ?side1 ?side2 A38.out).mono ?_);(case side1=>exact CW (Kd.R_reads' HO_11.out).2.2);(case side2=>rw [show t554.length = t542.length from (Kd.R_reads' HO_11.out).1.symm];exact (Kd.R_reads' HO_11.out).2.1);rintro e w' ⟨rfl,⟨nd,rfl⟩⟩;refine ⟨_,rfl,?_⟩)|(refine GC 6 ?_;refine GM (some 95) Try.func6 (laws_toIntSS.calls kj25 _ _ l1 t556 _ (CW (Kd.C_below HR1.out BB)) HC1.out A41.out) ?_;rintro e w46 ⟨v557,rfl,ho0,hb⟩;refine ⟨_,rfl,?_⟩;have HO558:=AM (Kd.S_lower (Kd.S_new' (Kd.S_new' ho0 (Kd.R_lt (KR HO_7))) (Kd.R_lt (KR HO_11))) (BZ BB));replace HO_7:=RB HO_7 hb;replace HO_11:=RB HO_11 hb;replace HB:=HS hb;try clear hb ho0;obtain ⟨Ao47,co47,eo47⟩:=Kd.S_slice HO558.out;subst eo47)|(refine GC 7 ?_;refine GM (some 96) Try.func7 (impl_FairCut.calls kj25 a0 _ _ t556 t559 t560 t561 _ (CW (Kd.S_reads' HO558.out).2.2) ((Kd.S_reads' HO558.out).2.1) A42.out) ?_;rintro e w48 ⟨v562,rfl,ho0,hb⟩;refine ⟨_,rfl,?_⟩;replace HO558:=SO HO558 ho0 hb;have HO563:=AM (Kd.R_lower (Kd.R_new' (Kd.R_new' ho0 (Kd.R_lt (KR HO_7))) (Kd.R_lt (KR HO_11))) (BZ BB));replace HO_7:=RO HO_7 ho0 hb;replace HO_11:=RO HO_11 ho0 hb;replace HB:=HS hb;try clear hb ho0))
      (try simp only [Act.put,List.setIfInBounds_toArray,List.set_cons_zero,List.set_cons_succ]);go_cut [113] (fun v113 wc=>∃ (kq : Nat) (x113_42 : Bool),v113 = .bool x113_42∧Aside0 (laws_FnExactFairCut.j2 kq t554 t553 x113_42 = some r)∧Aside0 (kq ≤ kj25)∧Aside0 (Kd.R (Kd.int .i64) 3 wc w.heap.size (fun _=>True) (.slice Ao44 t542.length co44) t554)∧Aside0 (Below w.heap.size w wc))
      case first=>as_aux_lemma =>
       have H:=HC43.out;clear HC43;replace H:=IC H;obtain ⟨c49,H⟩:=H;have c49b0:=QT c49;have c49b1:=bne_eq_false_iff_eq.mpr c49;clear c49
       (first|rw [c49b0]|(simp only [i64_w,i32_w];rw [c49b0])|skip);replace H:=EA H;obtain ⟨t564,A50,H⟩:=H;replace H:=IC H;obtain ⟨rfl,H⟩:=H;have H':=AM H;clear H;obtain ⟨Ao52,co52,eo52⟩:=Kd.R_slice HO563.out;subst eo52;obtain ⟨Ao53,co53,eo53⟩:=Kd.R_slice HO_7.out;subst eo53;go_wp2_with (first|(go_at_call 8;(with_reducible refine (laws_eqIntS.calls kj25 _ _ t560 _ _ t534 true _ (CW (Kd.R_reads' HO563.out).2.2) ((Kd.R_reads' HO563.out).2.1) (CW (Kd.R_reads' HO_7.out).2.2) ((Kd.R_reads' HO_7.out).2.1) A50.out).mono ?_);rintro e w' ⟨rfl,⟨nd,rfl⟩⟩));go_meet
       case rel=>exact ⟨_,((t561 != t535)),RF,H',⟨by have:=HJ8.out;have:=HJ25.out;first|omega|exact Nat.le_refl _⟩,⟨by (with_reducible repeat (first|apply Kd.R_alloc|apply Kd.R_drewN|apply Kd.R_drew));exact Kd.R_mono HO_11.out (fun _ hk=>trivial)⟩,⟨BB⟩⟩
      case rest=>as_aux_lemma =>
       clear HC43;try clear c1
       try clear c2
       try clear p2
       try clear c3
       try clear c4
       try clear c4b0
       try clear c5
       try clear c6
       try clear p6
       try clear c7
       try clear c9
       try clear c10
       try clear c11
       try clear c12
       try clear c16
       try clear c16b0
       try clear c16b1
       try clear c18
       try clear c21
       try clear c24
       try clear c30
       try clear c30b0
       try clear c31
       try clear c31b0
       try clear c31b1
       try clear c33
       try clear c36
       try clear c39
       try clear c39b0
       try clear c40
       try clear c40b0
       try clear c40b1
       try clear c49
       try clear c49b0
       try clear c49b1
       try clear c51
       try clear p2
       try clear p6
       obtain ⟨kq,x113_42,rfl,HA,HJ42,HO_11,HB⟩:=hcut;have hl11_42:=(Kd.R_reads' HO_11.out).1;rw [hl11_42] at HO_11
       (try simp only [hl11_42]);cases kq with
       | zero=>exact absurd HA.out (by simp [laws_FnExactFairCut.j2])
       | succ kj42 =>
        have H:=HA.out;clear HA;simp only [laws_FnExactFairCut.j2] at H;replace H:=IE H;obtain ⟨rfl,H⟩:=H;replace H:=EA H;obtain ⟨t565,A55,H⟩:=H;replace H:=ID H;obtain ⟨c56,H⟩:=H;have c56b0:=DF c56;clear c56;replace H:=IC H;obtain ⟨c57,H⟩:=H;have c57b0:=QT c57;have c57b1:=bne_eq_false_iff_eq.mpr c57;clear c57;obtain rfl:=Option.some.inj H;go_wp2_with (first|(refine GC 12 ?_;refine GM (some 116) Try.func12 (laws_heldIntS.calls kj42 _ _ t554 1 t565 _ (CW (Kd.R_reads' HO_11.out).2.2) ((Kd.R_reads' HO_11.out).2.1) A55.out) ?_;rintro e w' ⟨rfl,⟨nd,rfl⟩⟩;refine ⟨_,rfl,?_⟩));go_ret;exact ⟨RE,BB⟩

end Go.Proofs.Ytcecimigkndakab.PFnExactFairCut
