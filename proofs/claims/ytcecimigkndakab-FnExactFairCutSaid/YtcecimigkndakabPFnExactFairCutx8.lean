-- Written by a program of this session (wip/tools/pp.sh) out of the translation; Lean checks it.
import Derived.Test.YtcecimigkndakabPFnExactFairCutx7
namespace Go.Proofs.Ytcecimigkndakab.PFnExactFairCut
open Go.RowKit Go.Proofs.YtcecimigkndakabOwn Go.Proofs.YtcecimigkndakabW.PrintWords Go.Proofs.YtcecimigkndakabW.PrintLast Go.Proofs.YtcecimigkndakabW.PrintMore
attribute [local go_sem] max2_int min2_int max_two min_two max_three min_three max_four min_four   -- for this text's walks alone
set_option linter.unusedVariables false
set_option maxHeartbeats 8000000
set_option maxRecDepth 100000
set_option linter.unusedSimpArgs false

/-! ### spec_FairCut: function 5 (given) -/
def spec_FairCut.l0 : Nat→Int→List Int→List Int→List Int→List Int→Int→Int→Option (Int × List Int × Bool)
 | 0,_,_,_,_,_,_,_=>none
 | k + 1,x0,x7,x10,x11,x35,x36,x37=>if x37 < x36 then (if 0 ≤ x37 then (if x37 < (x35.length : Int) then ((spec_ckOwner.f k x0 (rd x35 x37)).bind fun t301=>(if 0 ≤ (rd x35 x37) then (if (rd x35 x37) < (x7.length : Int) then (if 0 ≤ t301 then (if t301 < (x11.length : Int) then (spec_FairCut.l0 k x0 x7 x10 (x11.set (t301 : Int).toNat (rd x7 (rd x35 x37))) x35 x36 (wrap64 (x37 + 1))) else (none)) else (none)) else (none)) else (none))) else (none)) else (none)) else (if 0 < (x10.length : Int) then (some (rd x10 0,x11,true)) else (none))
def spec_FairCut.f (k : Nat) (a0 : Int) (l1 : List (List Int)) : Option (Int × List Int × Bool):=(spec_ckTastes.f k a0 l1).bind fun t287=>(if t287 = true then ((spec_ckLabels.f k a0 l1).bind fun t288=>((spec_FindFull.f k a0 t288).bind fun bt291=>(if bt291.2 = true then ((spec_meCells.f k a0).bind fun t293=>(if 0 ≤ bt291.1 then (if bt291.1 < (t293.length : Int) then (spec_FairCut.l0 k a0 t288 (rd_L1 t293 bt291.1) (([0,0,0] : List Int)) (rd_L1 t293 bt291.1) ((rd_L1 t293 bt291.1).length : Int) 0) else (none)) else (none))) else (some (0,([] : List Int),false))))) else (some (0,([] : List Int),false)))
theorem spec_FairCut.mono_l : ∀ k,(∀ y0 y1 y2 y3 y4 y5 y6,LeO (spec_FairCut.l0 k y0 y1 y2 y3 y4 y5 y6) (spec_FairCut.l0 (k + 1) y0 y1 y2 y3 y4 y5 y6))
 | 0=>fun _ _ _ _ _ _ _ r h=>by simp [spec_FairCut.l0] at h
 | k + 1=>by
  have ih0:=spec_FairCut.mono_l k
  ·intro y0 y1 y2 y3 y4 y5 y6
   unfold spec_FairCut.l0
   have m0:=@spec_FindFull.mono
   have m1:=@spec_ckLabels.mono
   have m2:=@spec_ckOwner.mono
   have m3:=@spec_ckTastes.mono
   have m4:=@spec_meCells.mono
   exact MO
theorem spec_FairCut.mono : ∀ a0 a1 k,LeO (spec_FairCut.f k a0 a1) (spec_FairCut.f (k + 1) a0 a1):=by
 intro a0 a1 k;have ih0:=spec_FairCut.mono_l k;unfold spec_FairCut.f
 have m0:=@spec_FindFull.mono
 have m1:=@spec_ckLabels.mono
 have m2:=@spec_ckOwner.mono
 have m3:=@spec_ckTastes.mono
 have m4:=@spec_meCells.mono
 exact MO
def spec_FairCut.T12 : Bool × List (List Nat × List Nat):=(true,[([],[]),([],[]),([],[]),([1,2],[1,2]),([],[]),([],[]),([4,5],[4,5]),([6],[6]),([0,3,0,1,2,3,4,5,6,7],[0,3]),([8,7,3,0,1,2,3,4,5,6,7],[7,8])])
def spec_FairCut.B12 : List Nat:=[0,0,0,6,0,0,48,112,255,511]
theorem spec_FairCut.tab12 : rtab .any (opsOf Try.f5 12) = spec_FairCut.T12:=by kernel_rfl
theorem spec_FairCut.bits12 : waitsOk spec_FairCut.T12.2 spec_FairCut.B12 = true:=by kernel_rfl
theorem spec_FairCut.calls (k : Nat) (a0 : Int) (A1 : Option Addr) (c1 : Nat) (l1 : List (List Int)) (r1 : Int) (r2 : List Int) (r3 : Bool) (w : World) (hr1 : Kd.C (Kd.slice 3 (Kd.int .i64)) w A1 l1.length l1) (hc1 : l1.length ≤ c1) (h : spec_FairCut.f k a0 l1 = some (r1,r2,r3)) :
  Calls Try.prog 5 #[.int .i64 a0,.slice A1 l1.length c1] w fun e w'=>∃ v1_ : Value,e = .returned (.tuple #[.int .i64 r1,v1_,.bool r3])∧Kd.R (Kd.int .i64) 3 w' w.heap.size (fun _=>True) v1_ r2∧Below w.heap.size w w':=by
 have HR1:=AM hr1;have HC1:=AM hc1;clear hr1 hc1;have HB:=HRf w;have H : ((spec_ckTastes.f k a0 l1).bind fun t287=>(if t287 = true then ((spec_ckLabels.f k a0 l1).bind fun t288=>((spec_FindFull.f k a0 t288).bind fun bt291=>(if bt291.2 = true then ((spec_meCells.f k a0).bind fun t293=>(if 0 ≤ bt291.1 then (if bt291.1 < (t293.length : Int) then (spec_FairCut.l0 k a0 t288 (rd_L1 t293 bt291.1) (([0,0,0] : List Int)) (rd_L1 t293 bt291.1) ((rd_L1 t293 bt291.1).length : Int) 0) else (none)) else (none))) else (some (0,([] : List Int),false))))) else (some (0,([] : List Int),false)))) = some (r1,r2,r3):=h;clear h;replace H:=EA H;obtain ⟨t287,A3,H⟩:=H;by_cases c4 : t287 = true
 ·subst c4;replace H:=IP H;replace H:=EA H;obtain ⟨t288,A5,H⟩:=H;replace H:=EA H;obtain ⟨⟨t291,t292⟩,A6,H⟩:=H;try dsimp only at H
  by_cases c7 : t292 = true
  ·subst c7;replace H:=IP H;replace H:=EA H;obtain ⟨t293,A8,H⟩:=H;replace H:=IC H;obtain ⟨c9,H⟩:=H;have c9b0:=DT c9;clear c9;replace H:=IC H;obtain ⟨c10,H⟩:=H;have c10b0:=DT c10;clear c10;obtain ⟨y297,hy297⟩ : ∃ y_ : List Int,y_ = (([0,0,0] : List Int)):=⟨_,rfl⟩;replace H : (spec_FairCut.l0 k a0 t288 (rd_L1 t293 t291) y297 (rd_L1 t293 t291) ((rd_L1 t293 t291).length : Int) 0) = some (r1,r2,r3):=HY H hy297;have Ny297:=AM hy297;clear hy297;have H':=AM H;clear H;go_enter Try.func5,Try.ntmps5;go_wp2_with (first|(refine GC 14 ?_;refine GM (some 16) Try.func14 (spec_ckTastes.calls k a0 _ _ l1 true _ (CW HR1.out) HC1.out A3.out) ?_;rintro e w' ⟨rfl,⟨nd,rfl⟩⟩;refine ⟨_,rfl,?_⟩)|(refine GC 15 ?_;refine GM (some 20) Try.func15 (spec_ckLabels.calls k a0 _ _ l1 t288 _ (CW HR1.out) HC1.out A5.out) ?_;rintro e w11 ⟨v289,rfl,ho0,hb⟩;refine ⟨_,rfl,?_⟩;have HO290:=AM (Kd.R_lower ho0 (BZ BB));replace HB:=HS hb;try clear hb ho0;obtain ⟨Ao12,co12,eo12⟩:=Kd.R_slice HO290.out;subst eo12)|(refine GC 16 ?_;refine GM (some 24) Try.func16 (spec_FindFull.calls k a0 _ _ t288 t291 true _ (CW (Kd.R_reads' HO290.out).2.2) ((Kd.R_reads' HO290.out).2.1) A6.out) ?_;rintro e w13 ⟨rfl,hb⟩;refine ⟨_,rfl,?_⟩;replace HO290:=RB HO290 hb;replace HB:=HS hb;try clear hb)|(refine GC 17 ?_;refine GM (some 30) Try.func17 (spec_meCells.calls k a0 t293 _ A8.out) ?_;rintro e w14 ⟨v294,rfl,ho0,hb⟩;refine ⟨_,rfl,?_⟩;have HO295:=AM (Kd.S_lower (Kd.S_new' ho0 (Kd.R_lt (KR HO290))) (BZ BB));replace HO290:=RB HO290 hb;replace HB:=HS hb;try clear hb ho0;obtain ⟨Ao15,co15,eo15⟩:=Kd.S_slice HO295.out;subst eo15;have p296 : 0 ≤ (t291 : Int):=OD AS;have q296 : t291 < (t293.length : Int):=OD AS;obtain ⟨ad296,A296_0,c296_0,e296,hx296_0,hl296_0,hi296_0⟩:=at_L1 (Kd.S_reads' HO295.out).2.2 t291 p296 q296;cases e296;obtain ⟨ce296,hce296,hMe296,hcc296⟩:=Kd.S_get HO295.out [] t291 p296 (by first|exact q296|exact OD AS|(have e_:=(Kd.S_reads' HO295.out).1;omega));obtain ⟨ve296_0,rfl,ge296_0⟩:=hMe296;have hv296_0:=hcc296 0 _ rfl;rw [Nat.add_zero,show ((Kd.slice 3 (Kd.int .i64))).sz = 1 from rfl,Nat.mul_one] at hv296_0;replace hv296_0:=Option.some.inj (hv296_0.symm.trans hx296_0);rw [hv296_0] at ge296_0;have HL296_0:=AM (show Kd.R (Kd.int .i64) 3 _ _ _ _ (rd_L1 t293 t291) from ge296_0);clear hv296_0 ge296_0;clear hcc296 hce296;have HR296_0:=AM hi296_0;have HC296_0:=AM hl296_0;clear hi296_0 hl296_0;replace p296:=ET p296;replace q296:=ET q296)|((with_reducible refine gate_dst (N:=34) rfl ?_);refine Kd.R_lit (Kd.int .i64) _ 3 ?hg (N:=34) ?hd (xs:=([0,0,0] : List Int)) (inner:=[.int .i64 0,.int .i64 0,.int .i64 0]) (ok:=fun _=>True) (okp:=fun _=>True) ?hr ?hp (fun _ hk=>hk) trivial (Below.refl _ _) (Nat.le_refl _) (by simp) ?_;(case hd=>rfl);(case hg=>rfl);(case hr=>exact GS);(case hp=>exact (Reps.one (show Kd.M (Kd.int .i64) _ _ _ 0 [.int .i64 0] from rfl) (Reps.one (show Kd.M (Kd.int .i64) _ _ _ 0 [.int .i64 0] from rfl) (Reps.one (show Kd.M (Kd.int .i64) _ _ _ 0 [.int .i64 0] from rfl) (Reps.none _ _)))));intro v298 w16 ho17 hb hg_ hnew_;clear hg_ hnew_;(first|rw [← Ny297.out] at ho17|(simp only [Int.reduceToNat] at ho17;rw [← Ny297.out] at ho17));replace HO295:=SO HO295 ho17 hb;have HO299:=AM (Kd.R_lower (Kd.R_new' (Kd.R_new' ho17 (Kd.R_lt (KR HO290))) (Kd.R_lt (KR HL296_0))) (BZ BB));replace HO290:=RO HO290 ho17 hb;replace HL296_0:=RO HL296_0 ho17 hb;replace HR296_0:=AM (Kd.C_below (CX HR296_0) hb);replace HB:=HS hb;clear hb ho17));go_loopg [37] k (fun kq v37 w'=>∃ (x11_1 : List Int) (x37_1 : Int),v37 = .int .i64 x37_1∧Aside0 (spec_FairCut.l0 kq a0 t288 (rd_L1 t293 t291) x11_1 (rd_L1 t293 t291) ((rd_L1 t293 t291).length : Int) x37_1 = some (r1,r2,r3))∧Aside0 (kq ≤ k)∧Aside0 (Kd.R (Kd.int .i64) 3 w' w.heap.size (fun k_=>some k_≠(v298 : Value).ownBlock) (.slice Ao12 t288.length co12) t288)∧Aside0 (Kd.R (Kd.int .i64) 3 w' w.heap.size (fun k_=>some k_≠((.slice Ao12 t288.length co12) : Value).ownBlock) v298 x11_1)∧Aside0 (Kd.R (Kd.int .i64) 3 w' w.heap.size (fun k_=>some k_≠(v298 : Value).ownBlock) (.slice A296_0 (rd_L1 t293 t291).length c296_0) (rd_L1 t293 t291))∧Aside0 (Below w.heap.size w w'))
   case atStart=>exact ⟨(y297),(0),RF,H',⟨Nat.le_refl _⟩,⟨by (with_reducible repeat (first|apply Kd.R_alloc|apply Kd.R_drewN|apply Kd.R_drew));exact Kd.R_mono HO290.out (fun _ hk=>hk.2)⟩,⟨by (with_reducible repeat (first|apply Kd.R_alloc|apply Kd.R_drewN|apply Kd.R_drew));exact Kd.R_mono HO299.out (fun _ hk=>hk.1.2)⟩,⟨by (with_reducible repeat (first|apply Kd.R_alloc|apply Kd.R_drewN|apply Kd.R_drew));exact Kd.R_mono HL296_0.out (fun _ hk=>hk.2)⟩,⟨BB⟩⟩
   case round =>
    clear H';try clear c1
    try clear c2
    try clear p2
    try clear q2
    try clear hx2
    try clear c4
    try clear c5
    try clear p6
    try clear c7
    try clear c9
    try clear c9b0
    try clear c10
    try clear c10b0
    try clear c14
    try clear c15
    try clear c16
    try clear c17
    try clear hx296_0
    try clear p296
    try clear q296
    obtain ⟨x11_1,x37_1,rfl,HA,HK1,HO_7,HO_11,HR296_0,HB⟩:=hrel;cases gk with
    | zero=>exact absurd HA.out (by simp [spec_FairCut.l0])
    | succ k1 =>
     have H:=HA.out;clear HA;simp only [spec_FairCut.l0] at H;by_cases c18 : x37_1 < ((rd_L1 t293 t291).length : Int)
     ·rw [if_pos c18] at H;have c18b0:=DT c18;clear c18;replace H:=IC H;obtain ⟨c19,H⟩:=H;have c19b0:=DT c19;clear c19;replace H:=IC H;obtain ⟨c20,H⟩:=H;have c20b0:=DT c20;clear c20;replace H:=EA H;obtain ⟨t301,A21,H⟩:=H;replace H:=IC H;obtain ⟨c22,H⟩:=H;have c22b0:=DT c22;clear c22;replace H:=IC H;obtain ⟨c23,H⟩:=H;have c23b0:=DT c23;clear c23;replace H:=IC H;obtain ⟨c24,H⟩:=H;have c24b0:=DT c24;clear c24;replace H:=IC H;obtain ⟨c25,H⟩:=H;have c25b0:=DT c25;clear c25;obtain ⟨y303,hy303⟩ : ∃ y_ : List Int,y_ = (x11_1.set (t301 : Int).toNat (rd t288 (rd (rd_L1 t293 t291) x37_1))):=⟨_,rfl⟩;replace H : (spec_FairCut.l0 k1 a0 t288 (rd_L1 t293 t291) y303 (rd_L1 t293 t291) ((rd_L1 t293 t291).length : Int) (wrap64 (x37_1 + 1))) = some (r1,r2,r3):=HY H hy303;have Ny303:=AM hy303;clear hy303;have H':=AM H;clear H;have p300 : 0 ≤ (x37_1 : Int):=OD AS;have q300 : x37_1 < ((rd_L1 t293 t291).length : Int):=OD AS;obtain ⟨ad300,e300,hx300_0⟩:=Kd.at_int (Kd.R_reads' HR296_0.out).2.2 x37_1 p300 q300;cases e300;try (replace hx300_0:=LC hx300_0)
      replace p300:=ET p300;replace q300:=ET q300;try go_wp2
      replace HO_7:=AM (Kd.R_drew HO_7.out);replace HO_11:=AM (Kd.R_drew HO_11.out);replace HR296_0:=AM (Kd.R_drew HR296_0.out);replace HB:=AM (below_drew1 HB.out);have p302 : 0 ≤ ((rd (rd_L1 t293 t291) x37_1) : Int):=OD AS;have q302 : (rd (rd_L1 t293 t291) x37_1) < (t288.length : Int):=OD AS;obtain ⟨ad302,e302,hx302_0⟩:=Kd.at_int (Kd.R_reads' HO_7.out).2.2 (rd (rd_L1 t293 t291) x37_1) p302 q302;cases e302;replace p302:=ET p302;replace q302:=ET q302;refine PSt (n:=10) (S:=fun w'=>w'.cell? (ad302.add ((rd (rd_L1 t293 t291) x37_1)).toNat) = some (.int .i64 (rd t288 (rd (rd_L1 t293 t291) x37_1)))) (ds:=[9]) (hx302_0) (fun hHeld=>?_);refine with_tabW spec_FairCut.tab12 spec_FairCut.bits12 (fun HT_ HW_=>?_);generalize wr.drew = w27 at HO_7 HO_11 HR296_0 HB hx302_0 hHeld ⊢;refine PA 0 41 HT_ ?_;refine PA 1 42 HT_ ?_;refine PA 2 43 HT_ ?_;refine PA 4 45 HT_ ?_;refine PA 5 46 HT_ ?_;refine PA 6 47 HT_ ?_;refine take_ (i:=7) (N:=some 48) (v:=?_) (a':=?_) #[true,true,true,false,true,true,true,true,false,false] rfl rfl (take_ofW HT_.out HW_.out (by kernel_rfl)) (fun _ _ _ h=>h) (Or.inl ⟨by rfl,?_⟩) hHeld ?_ ?_;rotate_left
      ·intro w' s0;go_simp;with_reducible rfl
      rotate_left
      ·exact PU
      refine PC 3 44 HT_ (fun K hK=>?_);refine goes_ Try.func18 (by kernel_rfl) rfl #[.int .i64 a0,.int .i64 (rd (rd_L1 t293 t291) x37_1)] (by rfl) rfl rfl TA ?_;with_reducible refine (spec_ckOwner.calls k1 a0 (rd (rd_L1 t293 t291) x37_1) t301 _ A21.out).mono ?_;rintro e w28 ⟨rfl,hb⟩;have HS0_:=LD hb hHeld;refine ⟨_,rfl,?_⟩;replace HO_7:=RB HO_7 hb;replace HO_11:=RB HO_11 hb;replace HR296_0:=RB HR296_0 hb;replace HB:=HS hb;try clear hb
      have p26 : 0 ≤ (t301 : Int):=OD AS;have q26 : (t301 : Int) < ((x11_1.length : Int) : Int):=OD AS;obtain ⟨go26,co26,eo26,gb26,gl26,cl26,HG26⟩:=Kd.R_form HO_11.out (by omega)
      (first|cases eo26|(injection eo26 with ea_ en_ ec_;(first|subst ea_|(injection ea_ with ea_;subst ea_));subst ec_;clear en_));have GB26:=AM gb26;have GG26:=AM HG26;clear gb26 gl26 HG26;obtain ⟨hx26_0,hf26_0⟩:=Kd.R_celln 0 HO_11.out (t301 : Int) p26 q26;replace p26:=ET p26;replace q26:=ET q26;have HP29:=Kd.R_putn HO_11.out (t301 : Int) (rd t288 (rd (rd_L1 t293 t291) x37_1));rw [← Ny303.out] at HP29;have HQ29:=AM HP29;clear HP29;refine hK.out _ _ (HS0_) (fun hHeld=>?_);clear hK K;refine norm_ (a':=?_) ?_ ?_;rotate_left
      ·show Act.put _ (some 44) _ = _;simp only [Act.put,List.setIfInBounds_toArray,List.set_cons_zero,List.set_cons_succ,i64_w,i32_w];rfl
      refine PA 8 49 HT_ ?_;refine last_ (i:=9) (N:=none) #[true,true,true,true,true,true,true,true,true,true] rfl rfl (one_of HT_.out (by kernel_rfl)) (by decide) (fun K hK=>?_);refine skip_ (w1:=?_) (by rfl) rfl ?_ ?_;rotate_left
      ·go_simp;rfl
      refine hK.out _ _ ?_;clear hK K;refine done_ (done_of HT_.out (by kernel_rfl)) ?_;try go_wp2
      go_roundg k1
      case measure=>have:=HK1.out;omega
      case rel=>exact ⟨(y303),(wrap64 (x37_1 + 1)),RF,H',⟨by have:=HK1.out;omega⟩,⟨by (with_reducible repeat (first|apply Kd.R_alloc|apply Kd.R_drewN|apply Kd.R_drew));exact Kd.R_mono (Kd.R_far (p:=⟨go26,(t301 : Int).toNat,none⟩) (Kd.R_mono HO_7.out (fun k_ hk=>(⟨hk,fun e_=>hk (by rw [e_];rfl)⟩ : _∧k_≠go26))) (fun _ hk=>hk.2) (.int .i64 (rd t288 (rd (rd_L1 t293 t291) x37_1)))) (fun _ hk=>hk.1)⟩,⟨KR HQ29⟩,⟨by (with_reducible repeat (first|apply Kd.R_alloc|apply Kd.R_drewN|apply Kd.R_drew));exact Kd.R_mono (Kd.R_far (p:=⟨go26,(t301 : Int).toNat,none⟩) (Kd.R_mono HR296_0.out (fun k_ hk=>(⟨hk,fun e_=>hk (by rw [e_];rfl)⟩ : _∧k_≠go26))) (fun _ hk=>hk.2) (.int .i64 (rd t288 (rd (rd_L1 t293 t291) x37_1)))) (fun _ hk=>hk.1)⟩,⟨by repeat (first|(with_reducible first|exact HB.out|apply below_alloc|apply pw_below_drewN|apply below_drew1|refine below_set ?_ GB26.out)|exact HB.out)⟩⟩
     ·rw [if_neg c18] at H;have c18b0:=DF c18;clear c18;replace H:=IC H;obtain ⟨c30,H⟩:=H;have c30b0:=DT c30;have c30b1 : decide (0 < (rd_L1 t293 t291).length) = true:=DT (by omega);clear c30;simp only [Option.some.injEq,Prod.mk.injEq] at H;obtain ⟨rfl,rfl,rfl⟩:=H;have p304 : 0 ≤ (0 : Int):=(by omega);have q304 : 0 < ((rd_L1 t293 t291).length : Int):=OD AS;obtain ⟨ad304,e304,hx304_0⟩:=Kd.at_int (Kd.R_reads' HR296_0.out).2.2 0 p304 q304;cases e304;have qi304 : (0 < (rd_L1 t293 t291).length) = True:=ET (by omega)
      (try rw [show ((0 : Int)).toNat = 0 from rfl] at hx304_0)
      (try rw [Addr.add_zero'] at hx304_0);try (replace hx304_0:=LC hx304_0)
      replace p304:=ET p304;replace q304:=ET q304;go_wp2;go_ret3;exact ⟨_,RE,by (with_reducible repeat (first|apply Kd.R_alloc|apply Kd.R_drewN|apply Kd.R_drew));exact Kd.R_mono HO_11.out (fun _ hk=>trivial),BB⟩
  ·replace c7:=NF c7;subst c7;replace H:=IN H;simp only [Option.some.injEq,Prod.mk.injEq] at H;obtain ⟨rfl,rfl,rfl⟩:=H;go_enter Try.func5,Try.ntmps5;go_wp2_with (first|(refine GC 14 ?_;refine GM (some 16) Try.func14 (spec_ckTastes.calls k a0 _ _ l1 true _ (CW HR1.out) HC1.out A3.out) ?_;rintro e w' ⟨rfl,⟨nd,rfl⟩⟩;refine ⟨_,rfl,?_⟩)|(refine GC 15 ?_;refine GM (some 20) Try.func15 (spec_ckLabels.calls k a0 _ _ l1 t288 _ (CW HR1.out) HC1.out A5.out) ?_;rintro e w31 ⟨v289,rfl,ho0,hb⟩;refine ⟨_,rfl,?_⟩;have HO290:=AM (Kd.R_lower ho0 (BZ BB));replace HB:=HS hb;try clear hb ho0;obtain ⟨Ao32,co32,eo32⟩:=Kd.R_slice HO290.out;subst eo32)|(refine GC 16 ?_;refine GM (some 24) Try.func16 (spec_FindFull.calls k a0 _ _ t288 t291 false _ (CW (Kd.R_reads' HO290.out).2.2) ((Kd.R_reads' HO290.out).2.1) A6.out) ?_;rintro e w33 ⟨rfl,hb⟩;refine ⟨_,rfl,?_⟩;replace HO290:=RB HO290 hb;replace HB:=HS hb;try clear hb));go_ret3;exact ⟨_,RE,by first|exact Kd.R_nil _ _ _ _ _|exact Kd.N_nil _ _ _ _ _|exact Kd.V_nil _ _ _ _ _|exact Kd.Q_nil _ _ _ _ _|exact Kd.S_nil _ _ _ _ _,BB⟩
 ·replace c4:=NF c4;subst c4;replace H:=IN H;simp only [Option.some.injEq,Prod.mk.injEq] at H;obtain ⟨rfl,rfl,rfl⟩:=H;go_enter Try.func5,Try.ntmps5;go_wp2_with (first|(refine GC 14 ?_;refine GM (some 16) Try.func14 (spec_ckTastes.calls k a0 _ _ l1 false _ (CW HR1.out) HC1.out A3.out) ?_;rintro e w' ⟨rfl,⟨nd,rfl⟩⟩;refine ⟨_,rfl,?_⟩));go_ret3;exact ⟨_,RE,by first|exact Kd.R_nil _ _ _ _ _|exact Kd.N_nil _ _ _ _ _|exact Kd.V_nil _ _ _ _ _|exact Kd.Q_nil _ _ _ _ _|exact Kd.S_nil _ _ _ _ _,BB⟩

/-! ### laws_toIntS: function 19 -/
def laws_toIntS.l0 : Nat→List Int→List Int→Int→Option (List Int)
 | 0,_,_,_=>none
 | k + 1,x0,x3,x4=>if x4 < (x0.length : Int) then (if 0 ≤ x4 then (if x4 < (x3.length : Int) then (laws_toIntS.l0 k x0 (x3.set (x4 : Int).toNat (rd x0 x4)) (wrap64 (x4 + 1))) else (none)) else (none)) else (some x3)
def laws_toIntS.f (k : Nat) (l0 : List Int) : Option (List Int):=if 0 ≤ (l0.length : Int) then (if ((l0.length : Int) : Int).toNat ≤ 35184372088832 then (laws_toIntS.l0 k l0 (List.replicate ((l0.length : Int) : Int).toNat 0) 0) else (none)) else (none)
theorem laws_toIntS.mono_l : ∀ k,(∀ y0 y1 y2,LeO (laws_toIntS.l0 k y0 y1 y2) (laws_toIntS.l0 (k + 1) y0 y1 y2))
 | 0=>fun _ _ _ r h=>by simp [laws_toIntS.l0] at h
 | k + 1=>by
  have ih0:=laws_toIntS.mono_l k
  ·intro y0 y1 y2
   unfold laws_toIntS.l0
   exact MO
theorem laws_toIntS.mono : ∀ a0 k,LeO (laws_toIntS.f k a0) (laws_toIntS.f (k + 1) a0):=by
 intro a0 k;have ih0:=laws_toIntS.mono_l k;unfold laws_toIntS.f
 exact MO
theorem laws_toIntS.calls (k : Nat) (A0 : Option Addr) (c0 : Nat) (l0 : List Int) (r : List Int) (w : World) (hr0 : Kd.C (Kd.int .i64) w A0 l0.length l0) (hc0 : l0.length ≤ c0) (h : laws_toIntS.f k l0 = some r) :
  Calls Try.prog 19 #[.slice A0 l0.length c0] w fun e w'=>∃ v0_ : Value,e = .returned (v0_)∧Kd.R (Kd.int .i64) 3 w' w.heap.size (fun _=>True) v0_ r∧Below w.heap.size w w':=by
 have HR0:=AM hr0;have HC0:=AM hc0;clear hr0 hc0;have HB:=HRf w;have H : (if 0 ≤ (l0.length : Int) then (if ((l0.length : Int) : Int).toNat ≤ 35184372088832 then (laws_toIntS.l0 k l0 (List.replicate ((l0.length : Int) : Int).toNat 0) 0) else (none)) else (none)) = some r:=h;clear h;replace H:=IC H;obtain ⟨c2,H⟩:=H;have c2b0:=ET c2;have c2b1:=DT c2;clear c2;replace H:=IC H;obtain ⟨c3,H⟩:=H;have c3b0:=ET c3;have c3b1:=DT c3;clear c3;obtain ⟨y287,hy287⟩ : ∃ y_ : List Int,y_ = (List.replicate ((l0.length : Int) : Int).toNat 0):=⟨_,rfl⟩;replace H : (laws_toIntS.l0 k l0 y287 0) = some r:=HY H hy287;have Ny287:=AM hy287;clear hy287;have H':=AM H;clear H;go_enter Try.func19,Try.ntmps19;go_wp2_with (first|((with_reducible refine gate_dst (N:=7) rfl ?_);refine Kd.R_make (Kd.int .i64) _ 3 rfl (N:=7) rfl 24 _ _ rfl (l0.length : Int) rfl rfl Try.underlying24 (.int .i64 0) 8 info3 rfl (by decide) (by omega) 0 (ok:=fun _=>True) (okp:=fun _=>True) rfl (fun _ hk=>hk) trivial (OD AS) (Nat.le_trans (Nat.mul_le_mul_right _ (OD AS : (l0.length : Int).toNat ≤ 35184372088832)) (by omega)) (Below.refl _ _) (Nat.le_refl _) ?_;intro v288 w4 ho5 hb hg_ hnew_;clear hg_ hnew_;(first|rw [← Ny287.out] at ho5|(simp only [Int.reduceToNat] at ho5;rw [← Ny287.out] at ho5));have HO289:=AM (Kd.R_lower ho5 (BZ BB));replace HB:=HS hb;clear hb ho5));go_loopg [4] k (fun kq v4 w'=>∃ (x3_1 : List Int) (x4_1 : Int),v4 = .int .i64 x4_1∧Aside0 (laws_toIntS.l0 kq l0 x3_1 x4_1 = some r)∧Aside0 (kq ≤ k)∧Aside0 (Kd.R (Kd.int .i64) 3 w' w.heap.size (fun _=>True) v288 x3_1)∧Aside0 (Below w.heap.size w w'))
 case atStart=>exact ⟨(y287),(0),RF,H',⟨Nat.le_refl _⟩,⟨KR HO289⟩,⟨BB⟩⟩
 case round =>
  clear H';try clear c1
  try clear c2
  try clear c2b0
  try clear c2b1
  try clear p2
  try clear c3
  try clear c3b0
  try clear c3b1
  obtain ⟨x3_1,x4_1,rfl,HA,HK1,HO_3,HB⟩:=hrel;cases gk with
  | zero=>exact absurd HA.out (by simp [laws_toIntS.l0])
  | succ k1 =>
   have H:=HA.out;clear HA;simp only [laws_toIntS.l0] at H;by_cases c6 : x4_1 < (l0.length : Int)
   ·rw [if_pos c6] at H;have c6b0:=DT c6;clear c6;replace H:=IC H;obtain ⟨c7,H⟩:=H;have c7b0:=DT c7;clear c7;replace H:=IC H;obtain ⟨c8,H⟩:=H;have c8b0:=DT c8;clear c8;obtain ⟨y291,hy291⟩ : ∃ y_ : List Int,y_ = (x3_1.set (x4_1 : Int).toNat (rd l0 x4_1)):=⟨_,rfl⟩;replace H : (laws_toIntS.l0 k1 l0 y291 (wrap64 (x4_1 + 1))) = some r:=HY H hy291;have Ny291:=AM hy291;clear hy291;have H':=AM H;clear H;have p290 : 0 ≤ (x4_1 : Int):=OD AS;have q290 : x4_1 < (l0.length : Int):=OD AS;obtain ⟨ad290,e290,hx290_0⟩:=Kd.at_int HR0.out x4_1 p290 q290;cases e290;try (replace hx290_0:=LC hx290_0)
    replace p290:=ET p290;replace q290:=ET q290;have p9 : 0 ≤ (x4_1 : Int):=OD AS;have q9 : (x4_1 : Int) < ((x3_1.length : Int) : Int):=OD AS;obtain ⟨go9,co9,eo9,gb9,gl9,cl9,HG9⟩:=Kd.R_form HO_3.out (by omega)
    (first|cases eo9|(injection eo9 with ea_ en_ ec_;(first|subst ea_|(injection ea_ with ea_;subst ea_));subst ec_;clear en_));have GB9:=AM gb9;have GG9:=AM HG9;clear gb9 gl9 HG9;obtain ⟨hx9_0,hf9_0⟩:=Kd.R_celln 0 HO_3.out (x4_1 : Int) p9 q9;replace p9:=ET p9;replace q9:=ET q9;have HP10:=Kd.R_putg HO_3.out (x4_1 : Int) (rd l0 x4_1);go_wp2_with (first|((with_reducible refine gate_store (t:=3) (p:=20) rfl ?_);refine store_event (t:=3) (p:=20) (v:=?vo_w11) (w1:=(wr.setCell ⟨go9,(x4_1 : Int).toNat,none⟩ (.int .i64 (rd l0 x4_1)))) ?hg ?ho ?hn ?hr ?_;(case ho=>rfl);(case hg=>rfl);(case hn=>rfl);(case hr=>exact GS);intro w11 hw;have hg : wr.grownBy w11 (some go9):=(by rw [hw];exact HP10.2);have hp_ : Kd.R (Kd.int .i64) 3 w11 w.heap.size (fun _=>True) (.slice (some ⟨go9,0,none⟩) x3_1.length co9) y291:=(by rw [hw,Ny291.out];exact HP10.1);clear HP10;replace HO_3:=AM hp_;replace HB:=AM ((by rw [hw];exact below_set (HB.out) GB9.out : Below w.heap.size w w11));clear hg hw hp_));go_roundg k1
    case measure=>have:=HK1.out;omega
    case rel=>exact ⟨(y291),(wrap64 (x4_1 + 1)),RF,H',⟨by have:=HK1.out;omega⟩,⟨KR HO_3⟩,⟨BB⟩⟩
   ·rw [if_neg c6] at H;have c6b0:=DF c6;clear c6;obtain rfl:=Option.some.inj H;go_wp2;go_ret;exact ⟨_,RE,KR HO_3,BB⟩

/-! ### laws_toIntSS: function 6 -/
def laws_toIntSS.l0 : Nat→List (List Int)→List (List Int)→Int→Option ((List (List Int)))
 | 0,_,_,_=>none
 | k + 1,x0,x3,x4=>if x4 < (x0.length : Int) then (if 0 ≤ x4 then ((laws_toIntS.f k (rd_L1 x0 x4)).bind fun t296=>(if x4 < (x3.length : Int) then (laws_toIntSS.l0 k x0 (x3.set (x4 : Int).toNat t296) (wrap64 (x4 + 1))) else (none))) else (none)) else (some x3)
def laws_toIntSS.f (k : Nat) (l0 : List (List Int)) : Option ((List (List Int))):=if 0 ≤ (l0.length : Int) then (if ((l0.length : Int) : Int).toNat ≤ 11728124029610 then (laws_toIntSS.l0 k l0 (List.replicate ((l0.length : Int) : Int).toNat []) 0) else (none)) else (none)
theorem laws_toIntSS.mono_l : ∀ k,(∀ y0 y1 y2,LeO (laws_toIntSS.l0 k y0 y1 y2) (laws_toIntSS.l0 (k + 1) y0 y1 y2))
 | 0=>fun _ _ _ r h=>by simp [laws_toIntSS.l0] at h
 | k + 1=>by
  have ih0:=laws_toIntSS.mono_l k
  ·intro y0 y1 y2
   unfold laws_toIntSS.l0
   have m0:=@laws_toIntS.mono
   exact MO
theorem laws_toIntSS.mono : ∀ a0 k,LeO (laws_toIntSS.f k a0) (laws_toIntSS.f (k + 1) a0):=by
 intro a0 k;have ih0:=laws_toIntSS.mono_l k;unfold laws_toIntSS.f
 have m0:=@laws_toIntS.mono
 exact MO
theorem laws_toIntSS.calls (k : Nat) (A0 : Option Addr) (c0 : Nat) (l0 : List (List Int)) (r : List (List Int)) (w : World) (hr0 : Kd.C (Kd.slice 3 (Kd.int .i64)) w A0 l0.length l0) (hc0 : l0.length ≤ c0) (h : laws_toIntSS.f k l0 = some r) :
  Calls Try.prog 6 #[.slice A0 l0.length c0] w fun e w'=>∃ v0_ : Value,e = .returned (v0_)∧Kd.S (Kd.slice 3 (Kd.int .i64)) 24 w' w.heap.size (fun _=>True) v0_ r∧Below w.heap.size w w':=by
 have HR0:=AM hr0;have HC0:=AM hc0;clear hr0 hc0;have HB:=HRf w;have H : (if 0 ≤ (l0.length : Int) then (if ((l0.length : Int) : Int).toNat ≤ 11728124029610 then (laws_toIntSS.l0 k l0 (List.replicate ((l0.length : Int) : Int).toNat []) 0) else (none)) else (none)) = some r:=h;clear h;replace H:=IC H;obtain ⟨c2,H⟩:=H;have c2b0:=ET c2;have c2b1:=DT c2;clear c2;replace H:=IC H;obtain ⟨c3,H⟩:=H;have c3b0:=ET c3;have c3b1:=DT c3;clear c3;obtain ⟨y292,hy292⟩ : ∃ y_ : List (List Int),y_ = (List.replicate ((l0.length : Int) : Int).toNat []):=⟨_,rfl⟩;replace H : (laws_toIntSS.l0 k l0 y292 0) = some r:=HY H hy292;have Ny292:=AM hy292;clear hy292;have H':=AM H;clear H;go_enter Try.func6,Try.ntmps6;go_wp2_with (first|((with_reducible refine gate_dst (N:=7) rfl ?_);refine Kd.S_make (Kd.slice 3 (Kd.int .i64)) _ 24 rfl (N:=7) rfl 22 _ _ rfl (l0.length : Int) rfl rfl Try.underlying22 (.slice none 0 0) 24 info24 rfl (by decide) (by omega) [] (ok:=fun _=>True) (okp:=fun _=>True) ⟨_,rfl,Kd.R_nil _ _ _ _ _⟩ (fun _ hk=>hk) trivial (OD AS) (Nat.le_trans (Nat.mul_le_mul_right _ (OD AS : (l0.length : Int).toNat ≤ 11728124029610)) (by omega)) (Below.refl _ _) (Nat.le_refl _) ?_;intro v293 w4 ho5 hb hg_ hnew_;clear hg_ hnew_;(first|rw [← Ny292.out] at ho5|(simp only [Int.reduceToNat] at ho5;rw [← Ny292.out] at ho5));have HO294:=AM (Kd.S_lower ho5 (BZ BB));replace HB:=HS hb;clear hb ho5));go_loopg [4] k (fun kq v4 w'=>∃ (x3_1 : List (List Int)) (x4_1 : Int),v4 = .int .i64 x4_1∧Aside0 (laws_toIntSS.l0 kq l0 x3_1 x4_1 = some r)∧Aside0 (kq ≤ k)∧Aside0 (Kd.S (Kd.slice 3 (Kd.int .i64)) 24 w' w.heap.size (fun _=>True) v293 x3_1)∧Aside0 (Below w.heap.size w w'))
 case atStart=>exact ⟨(y292),(0),RF,H',⟨Nat.le_refl _⟩,⟨KS HO294⟩,⟨BB⟩⟩
 case round =>
  clear H';try clear c2
  try clear c2b0
  try clear c2b1
  try clear p2
  try clear c3
  try clear c3b0
  try clear c3b1
  obtain ⟨x3_1,x4_1,rfl,HA,HK1,HO_3,HB⟩:=hrel;cases gk with
  | zero=>exact absurd HA.out (by simp [laws_toIntSS.l0])
  | succ k1 =>
   have H:=HA.out;clear HA;simp only [laws_toIntSS.l0] at H;by_cases c6 : x4_1 < (l0.length : Int)
   ·rw [if_pos c6] at H;have c6b0:=DT c6;clear c6;replace H:=IC H;obtain ⟨c7,H⟩:=H;have c7b0:=DT c7;clear c7;replace H:=EA H;obtain ⟨t296,A8,H⟩:=H;replace H:=IC H;obtain ⟨c9,H⟩:=H;have c9b0:=DT c9;clear c9;obtain ⟨y299,hy299⟩ : ∃ y_ : List (List Int),y_ = (x3_1.set (x4_1 : Int).toNat t296):=⟨_,rfl⟩;replace H : (laws_toIntSS.l0 k1 l0 y299 (wrap64 (x4_1 + 1))) = some r:=HY H hy299;have Ny299:=AM hy299;clear hy299;have H':=AM H;clear H;have p295 : 0 ≤ (x4_1 : Int):=OD AS;have q295 : x4_1 < (l0.length : Int):=OD AS;obtain ⟨ad295,A295_0,c295_0,e295,hx295_0,hl295_0,hi295_0⟩:=at_L1 HR0.out x4_1 p295 q295;cases e295;try (replace hx295_0:=LC hx295_0)
    have HR295_0:=AM hi295_0;have HC295_0:=AM hl295_0;clear hi295_0 hl295_0;replace p295:=ET p295;replace q295:=ET q295;go_wp2_with (first|(refine GC 19 ?_;refine GM (some 20) Try.func19 (laws_toIntS.calls k1 _ _ (rd_L1 l0 x4_1) t296 _ (CW (Kd.C_below HR295_0.out HB.out)) HC295_0.out A8.out) ?_;rintro e w11 ⟨v297,rfl,ho0,hb⟩;obtain ⟨Av_,cv_,ev_⟩:=Kd.R_slice ho0;subst ev_;refine ⟨_,rfl,?_⟩;replace HO_3:=SO HO_3 ho0 hb;have HO298:=AM (Kd.R_lower ho0 (BZ BB));replace HB:=HS hb;try clear hb ho0;have p10 : 0 ≤ (x4_1 : Int):=OD AS;have q10 : (x4_1 : Int) < ((x3_1.length : Int) : Int):=OD AS;obtain ⟨go10,co10,eo10,gb10,gl10,cl10,HG10⟩:=Kd.S_form HO_3.out (by omega);(first|cases eo10|(injection eo10 with ea_ en_ ec_;(first|subst ea_|(injection ea_ with ea_;subst ea_));subst ec_;clear en_));have GB10:=AM gb10;have GG10:=AM HG10;clear gb10 gl10 HG10;obtain ⟨_,ce10,hcl10,hM10,hcc10,hfr10,_,_⟩:=Kd.S_elem HO_3.out [] (x4_1 : Int) p10 q10;obtain ⟨ve10_0,rfl,ge10_0⟩:=hM10;have hx10_0:=hcc10 0 _ rfl;have hf10_0:=hfr10 0;(try simp only [show ((Kd.slice 3 (Kd.int .i64))).sz = 1 from rfl,Nat.mul_one,Nat.add_zero] at hx10_0);(try simp only [show ((Kd.slice 3 (Kd.int .i64))).sz = 1 from rfl,Nat.mul_one,Nat.add_zero] at hf10_0);clear hcl10 hcc10 hfr10;replace p10:=ET p10;replace q10:=ET q10;have n_:=AM (Kd.S_mono (ok':=(fun k_=>some k_≠((.slice Av_ t296.length cv_) : Value).ownBlock)) HO_3.out (fun k_ hk=>hk.2));clear HO_3;have HO_3:=n_;clear n_;have HX12:=AM (show Kd.S (Kd.slice 3 (Kd.int .i64)) 24 w11 w.heap.size (fun k_=>((fun _=>True)) k_∧¬ ((fun k_=>some k_ = ((.slice Av_ t296.length cv_) : Value).ownBlock)) k_) (.slice (some ⟨go10,0,none⟩) x3_1.length co10) x3_1 from (by (with_reducible repeat (first|apply Kd.S_alloc|apply Kd.S_drewN|apply Kd.S_drew));exact Kd.S_mono HO_3.out (fun k_ hk=>⟨trivial,fun e_=>hk e_⟩)));obtain ⟨oki12,ce12,hcl12,hM12,hcc12,hfr12,hoki12,hH12⟩:=Kd.S_elem HX12.out [] (x4_1 : Int) (OD AS) (by have h_ : (x4_1 : Int) < ((x3_1.length : Int) : Int):=OD AS;first|exact h_|(have e_:=(Kd.S_reads' HO_3.out).1;omega)|simpa using h_);obtain ⟨ve12_0,rfl,ge12_0⟩:=hM12;have HP12:=Kd.S_seg hH12 (OD AS) (by have h_ : (x4_1 : Int) < ((x3_1.length : Int) : Int):=OD AS;first|exact h_|(have e_:=(Kd.S_reads' HO_3.out).1;omega)|simpa using h_) (seg:=[(.slice Av_ t296.length cv_)]) (j:=0) (show 1 ≤ 1 from by decide) (x':=t296) (Kd.M_row (Kd.R_mono (Kd.R_tight rfl (Kd.R_mono (ok':=fun k_=>((fun _=>True)) k_∧k_≠go10) (Kd.R_apart' (HO298.out) (Kd.S_typed HO_3.out) (by decide)) (fun k_ hk=>⟨trivial,fun e_=>(hk.2) (by rw [e_];rfl)⟩))) (fun _ h_=>Or.inr (h_)))) (fun _ hk=>hk) (fun k_ hk_=>((Kd.R_mono (ok':=fun k_=>((fun _=>True)) k_∧k_≠go10) (Kd.R_apart' (HO298.out) (Kd.S_typed HO_3.out) (by decide)) (fun k_ hk=>⟨trivial,fun e_=>(hk.2) (by rw [e_];rfl)⟩))).1 k_ hk_.symm);have hx12_0:=hcc12 0 _ rfl;(try simp only [show ((Kd.slice 3 (Kd.int .i64))).sz = 1 from rfl,Nat.mul_one,Nat.add_zero] at hx12_0);have hf12_0:=hfr12 0;(try simp only [show ((Kd.slice 3 (Kd.int .i64))).sz = 1 from rfl,Nat.mul_one,Nat.add_zero] at hf12_0);clear hcl12 hcc12 hfr12 hoki12 hH12;(try simp only [show ((Kd.slice 3 (Kd.int .i64))).sz = 1 from rfl,Nat.mul_one,Nat.add_zero] at HP12))|((with_reducible refine gate_store (t:=24) (p:=21) rfl ?_);refine store_event (t:=24) (p:=21) (v:=?vo_w13) (w1:=(w11.setCell ⟨go10,(x4_1 : Int).toNat,none⟩ ((.slice Av_ t296.length cv_)))) ?hg ?ho ?hn ?hr ?_;(case ho=>rfl);(case hg=>rfl);(case hn=>rfl);(case hr=>exact GS);intro w13 hw;have hg : w11.grownBy w13 (some go10):=(by rw [hw];exact HP12.2);have hp_ : Kd.S (Kd.slice 3 (Kd.int .i64)) 24 w13 w.heap.size (fun _=>True) (.slice (some ⟨go10,0,none⟩) x3_1.length co10) y299:=(by rw [hw,Ny299.out];exact HP12.1);clear HP12;replace HO_3:=AM hp_;replace HB:=AM ((by rw [hw];exact below_set (HB.out) GB10.out : Below w.heap.size w w13));clear HO298;clear hg hw hp_));go_roundg k1
    case measure=>have:=HK1.out;omega
    case rel=>exact ⟨(y299),(wrap64 (x4_1 + 1)),RF,H',⟨by have:=HK1.out;omega⟩,⟨KS HO_3⟩,⟨BB⟩⟩
   ·rw [if_neg c6] at H;have c6b0:=DF c6;clear c6;obtain rfl:=Option.some.inj H;go_wp2;go_ret;exact ⟨_,RE,KS HO_3,BB⟩

/-! ### impl_in: function 60 -/
def impl_in.f (a0 : Int) (a1 : Int) (a2 : Int) : Option (Bool):=if a1 ≤ a0 then (some (decide (a0 ≤ a2))) else (some false)
theorem impl_in.calls (a0 : Int) (a1 : Int) (a2 : Int) (r : Bool) (w : World) (h : impl_in.f a0 a1 a2 = some r) :
  Calls Try.prog 60 #[.int .i64 a0,.int .i64 a1,.int .i64 a2] w fun e w'=>e = .returned (.bool r)∧Drawn0 w w':=by
 have H : (if a1 ≤ a0 then (some (decide (a0 ≤ a2))) else (some false)) = some r:=h;clear h;by_cases c4 : a1 ≤ a0
 ·rw [if_pos c4] at H;have c4b0:=DT c4;clear c4;obtain rfl:=Option.some.inj H;go_enter Try.func60,Try.ntmps60;go_wp2;go_ret;exact ⟨RF,DR⟩
 ·rw [if_neg c4] at H;have c4b0:=DF c4;clear c4;obtain rfl:=Option.some.inj H;go_enter Try.func60,Try.ntmps60;go_wp2;go_ret;exact ⟨RF,DR⟩

/-! ### impl_isSide: function 48 -/
def impl_isSide.f (a0 : Int) : Option (Bool):=(impl_in.f a0 1 8).bind fun t300=>(some t300)
theorem impl_isSide.calls (a0 : Int) (r : Bool) (w : World) (h : impl_isSide.f a0 = some r) :
  Calls Try.prog 48 #[.int .i64 a0] w fun e w'=>e = .returned (.bool r)∧Drawn0 w w':=by
 have H : ((impl_in.f a0 1 8).bind fun t300=>(some t300)) = some r:=h;clear h;replace H:=EA H;obtain ⟨t300,A2,H⟩:=H;obtain rfl:=Option.some.inj H;go_enter Try.func48,Try.ntmps48;go_wp2_with (first|(refine GC 60 ?_;refine GM (some 4) Try.func60 (impl_in.calls a0 1 8 t300 _ A2.out) ?_;rintro e w' ⟨rfl,⟨nd,rfl⟩⟩;refine ⟨_,rfl,?_⟩));go_ret;exact ⟨RF,DR⟩

-- NOT PRINTED: function 75 (slices_IndexFunc_int_int_75)

-- NOT PRINTED: function 61 (slices_ContainsFunc_int_int_61)

-- NOT PRINTED: function 76 (slices_IndexFunc_int_int)

-- NOT PRINTED: function 63 (slices_ContainsFunc_int_int)

/-! ### impl_areLists_1_1: function 64 -/
def impl_areLists_1_1.f (a0 : Int) (l1 : List Int) : Option (Bool):=if 0 < (l1.length : Int) then ((impl_in.f a0 0 (rd l1 0)).bind fun t302=>(some (!t302))) else (none)
theorem impl_areLists_1_1.calls (a0 : Int) (A1 : Option Addr) (c1 : Nat) (l1 : List Int) (r : Bool) (w : World) (hr1 : Kd.C (Kd.int .i64) w A1 l1.length l1) (hc1 : l1.length ≤ c1) (h : impl_areLists_1_1.f a0 l1 = some r) :
  Calls Try.prog 64 #[.int .i64 a0,.pointer A1] w fun e w'=>e = .returned (.bool r)∧Drawn0 w w':=by
 have HR1:=AM hr1;have HC1:=AM hc1;clear hr1 hc1;have H : (if 0 < (l1.length : Int) then ((impl_in.f a0 0 (rd l1 0)).bind fun t302=>(some (!t302))) else (none)) = some r:=h;clear h;replace H:=IC H;obtain ⟨c3,H⟩:=H;have c3b0:=DT c3;have c3b1 : decide (0 < l1.length) = true:=DT (by omega);clear c3;replace H:=EA H;obtain ⟨t302,A4,H⟩:=H;obtain rfl:=Option.some.inj H;have p301 : 0 ≤ (0 : Int):=(by omega);have q301 : 0 < (l1.length : Int):=OD AS;obtain ⟨ad301,e301,hx301_0⟩:=Kd.at_int HR1.out 0 p301 q301;cases e301;have qi301 : (0 < l1.length) = True:=ET (by omega)
 (try rw [show ((0 : Int)).toNat = 0 from rfl] at hx301_0)
 (try rw [Addr.add_zero'] at hx301_0);replace p301:=ET p301;replace q301:=ET q301;go_enter Try.func64,Try.ntmps64;go_wp2_with (first|(refine GC 60 ?_;refine GM (some 6) Try.func60 (impl_in.calls a0 0 (rd l1 0) t302 _ A4.out) ?_;rintro e w' ⟨rfl,⟨nd,rfl⟩⟩;refine ⟨_,rfl,?_⟩));go_ret;exact ⟨RF,DR⟩

/-! ### slices_IndexFunc_int_int__impl_areLists_1_1: function 76 -/
def slices_IndexFunc_int_int__impl_areLists_1_1.l0 : Nat→List Int→Int→Int→List Int→Option (Int)
 | 0,_,_,_,_=>none
 | k + 1,x0,x7,x8,x610=>if x8 < x7 then (if 0 ≤ x8 then (if x8 < (x0.length : Int) then ((impl_areLists_1_1.f (rd x0 x8) x610).bind fun t302=>(if t302 = true then (some x8) else (slices_IndexFunc_int_int__impl_areLists_1_1.l0 k x0 x7 (wrap64 (x8 + 1)) x610))) else (none)) else (none)) else (some (-1))
def slices_IndexFunc_int_int__impl_areLists_1_1.f (k : Nat) (l0 : List Int) (l1_0 : List Int) : Option (Int):=slices_IndexFunc_int_int__impl_areLists_1_1.l0 k l0 (l0.length : Int) 0 l1_0
theorem slices_IndexFunc_int_int__impl_areLists_1_1.mono_l : ∀ k,(∀ y0 y1 y2 y3,LeO (slices_IndexFunc_int_int__impl_areLists_1_1.l0 k y0 y1 y2 y3) (slices_IndexFunc_int_int__impl_areLists_1_1.l0 (k + 1) y0 y1 y2 y3))
 | 0=>fun _ _ _ _ r h=>by simp [slices_IndexFunc_int_int__impl_areLists_1_1.l0] at h
 | k + 1=>by
  have ih0:=slices_IndexFunc_int_int__impl_areLists_1_1.mono_l k
  ·intro y0 y1 y2 y3
   unfold slices_IndexFunc_int_int__impl_areLists_1_1.l0
   exact MO
theorem slices_IndexFunc_int_int__impl_areLists_1_1.mono : ∀ a0 a1 k,LeO (slices_IndexFunc_int_int__impl_areLists_1_1.f k a0 a1) (slices_IndexFunc_int_int__impl_areLists_1_1.f (k + 1) a0 a1):=by
 intro a0 a1 k;have ih0:=slices_IndexFunc_int_int__impl_areLists_1_1.mono_l k;unfold slices_IndexFunc_int_int__impl_areLists_1_1.f
 exact MO
theorem slices_IndexFunc_int_int__impl_areLists_1_1.calls (k : Nat) (A0 : Option Addr) (c0 : Nat) (l0 : List Int) (A1_0 : Option Addr) (c1_0 : Nat) (l1_0 : List Int) (r : Int) (w : World) (hr0 : Kd.C (Kd.int .i64) w A0 l0.length l0) (hc0 : l0.length ≤ c0) (hr1_0 : Kd.C (Kd.int .i64) w A1_0 l1_0.length l1_0) (hc1_0 : l1_0.length ≤ c1_0) (h : slices_IndexFunc_int_int__impl_areLists_1_1.f k l0 l1_0 = some r) :
  Calls Try.prog 76 #[.slice A0 l0.length c0,.func (.func 64) #[] #[.pointer A1_0]] w fun e w'=>e = .returned (.int .i64 r)∧Drawn0 w w':=by
 have HR0:=AM hr0;have HC0:=AM hc0;clear hr0 hc0;have HR1_0:=AM hr1_0;have HC1_0:=AM hc1_0;clear hr1_0 hc1_0;have H : (slices_IndexFunc_int_int__impl_areLists_1_1.l0 k l0 (l0.length : Int) 0 l1_0) = some r:=h;clear h;have H':=AM H;clear H;go_enter Try.func76,Try.ntmps76;go_wp2;go_loopg [8] k (fun kq v8 w'=>∃ (x8_1 : Int),v8 = .int .i64 x8_1∧Aside0 (slices_IndexFunc_int_int__impl_areLists_1_1.l0 kq l0 (l0.length : Int) x8_1 l1_0 = some r)∧Aside0 (kq ≤ k)∧Drawn0 w w')
 case atStart=>exact ⟨(0),RF,H',⟨Nat.le_refl _⟩,by repeat (first|exact Drawn0.refl _|apply Drawn0.step)⟩
 case round =>
  clear H';try clear c1
  try clear p2
  obtain ⟨x8_1,rfl,HA,HK1,⟨m1,rfl⟩⟩:=hrel;cases gk with
  | zero=>exact absurd HA.out (by simp [slices_IndexFunc_int_int__impl_areLists_1_1.l0])
  | succ k1 =>
   have H:=HA.out;clear HA;simp only [slices_IndexFunc_int_int__impl_areLists_1_1.l0] at H;by_cases c3 : x8_1 < (l0.length : Int)
   ·rw [if_pos c3] at H;have c3b0:=DT c3;clear c3;replace H:=IC H;obtain ⟨c4,H⟩:=H;have c4b0:=DT c4;clear c4;replace H:=IC H;obtain ⟨c5,H⟩:=H;have c5b0:=DT c5;clear c5;replace H:=EA H;obtain ⟨t302,A6,H⟩:=H;by_cases c7 : t302 = true
    ·subst c7;replace H:=IP H;obtain rfl:=Option.some.inj H;have p301 : 0 ≤ (x8_1 : Int):=OD AS;have q301 : x8_1 < (l0.length : Int):=OD AS;obtain ⟨ad301,e301,hx301_0⟩:=Kd.at_int HR0.out x8_1 p301 q301;cases e301;replace p301:=ET p301;replace q301:=ET q301;go_wp2_with (first|(go_at_call 64;(with_reducible refine (impl_areLists_1_1.calls (rd l0 x8_1) A1_0 c1_0 l1_0 true _ (CW HR1_0.out) HC1_0.out A6.out).mono ?_);rintro e w' ⟨rfl,⟨nd,rfl⟩⟩));go_ret;exact ⟨RF,DR⟩
    ·replace c7:=NF c7;subst c7;replace H:=IN H;have H':=AM H;clear H;have p301 : 0 ≤ (x8_1 : Int):=OD AS;have q301 : x8_1 < (l0.length : Int):=OD AS;obtain ⟨ad301,e301,hx301_0⟩:=Kd.at_int HR0.out x8_1 p301 q301;cases e301;replace p301:=ET p301;replace q301:=ET q301;go_wp2_with (first|(go_at_call 64;(with_reducible refine (impl_areLists_1_1.calls (rd l0 x8_1) A1_0 c1_0 l1_0 false _ (CW HR1_0.out) HC1_0.out A6.out).mono ?_);rintro e w' ⟨rfl,⟨nd,rfl⟩⟩));go_roundg k1
     case measure=>have:=HK1.out;omega
     case rel=>exact ⟨(wrap64 (x8_1 + 1)),RF,H',⟨by have:=HK1.out;omega⟩,by repeat (first|exact Drawn0.refl _|apply Drawn0.step)⟩
   ·rw [if_neg c3] at H;have c3b0:=DF c3;clear c3;obtain rfl:=Option.some.inj H;go_wp2;go_ret;exact ⟨RF,DR⟩

end Go.Proofs.Ytcecimigkndakab.PFnExactFairCut
