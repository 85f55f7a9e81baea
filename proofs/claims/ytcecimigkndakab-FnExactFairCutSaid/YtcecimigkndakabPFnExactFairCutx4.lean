-- Written by a program of this session (wip/tools/pp.sh) out of the translation; Lean checks it.
import Derived.Test.YtcecimigkndakabPFnExactFairCutx3
namespace Go.Proofs.Ytcecimigkndakab.PFnExactFairCut
open Go.RowKit Go.Proofs.YtcecimigkndakabOwn Go.Proofs.YtcecimigkndakabW.PrintWords Go.Proofs.YtcecimigkndakabW.PrintLast Go.Proofs.YtcecimigkndakabW.PrintMore
attribute [local go_sem] max2_int min2_int max_two min_two max_three min_three max_four min_four   -- for this text's walks alone
set_option linter.unusedVariables false
set_option maxHeartbeats 8000000
set_option maxRecDepth 100000
set_option linter.unusedSimpArgs false

/-! ### spec_doBorder: function 30 -/
def spec_doBorder.l0 : Nat→List Int→List Int→List (List Int)→List Int→Int→Int→Option ((List (List Int)))
 | 0,_,_,_,_,_,_=>none
 | k + 1,x1,x5,x6,x12,x13,x14=>if x14 < x13 then (if 0 ≤ x14 then (if x14 < (x12.length : Int) then (if (x5.length : Int) = 0 then (none) else (if 0 ≤ (Int.tmod (wrap64 (x14 + 1)) (x5.length : Int)) then (if (Int.tmod (wrap64 (x14 + 1)) (x5.length : Int)) < (x5.length : Int) then ((spec_doDoor.f x1 (rd x12 x14) (rd x5 (Int.tmod (wrap64 (x14 + 1)) (x5.length : Int)))).bind fun t200=>(if t200 = true then (if x6.length < 5864062014805 then (spec_doBorder.l0 k x1 x5 (x6 ++ [(([rd x12 x14,rd x5 (Int.tmod (wrap64 (x14 + 1)) (x5.length : Int))] : List Int))]) x12 x13 (wrap64 (x14 + 1))) else (none)) else (spec_doBorder.l0 k x1 x5 x6 x12 x13 (wrap64 (x14 + 1))))) else (none)) else (none))) else (none)) else (none)) else (some x6)
def spec_doBorder.f (k : Nat) (a0 : Int) (l1 : List Int) : Option ((List (List Int))):=(spec_meBorder.f k a0).bind fun t195=>(spec_doBorder.l0 k l1 t195 ([] : List (List Int)) t195 (t195.length : Int) 0)
theorem spec_doBorder.mono_l : ∀ k,(∀ y0 y1 y2 y3 y4 y5,LeO (spec_doBorder.l0 k y0 y1 y2 y3 y4 y5) (spec_doBorder.l0 (k + 1) y0 y1 y2 y3 y4 y5))
 | 0=>fun _ _ _ _ _ _ r h=>by simp [spec_doBorder.l0] at h
 | k + 1=>by
  have ih0:=spec_doBorder.mono_l k
  ·intro y0 y1 y2 y3 y4 y5
   unfold spec_doBorder.l0
   have m0:=@spec_meBorder.mono
   exact MO
theorem spec_doBorder.mono : ∀ a0 a1 k,LeO (spec_doBorder.f k a0 a1) (spec_doBorder.f (k + 1) a0 a1):=by
 intro a0 a1 k;have ih0:=spec_doBorder.mono_l k;unfold spec_doBorder.f
 have m0:=@spec_meBorder.mono
 exact MO
theorem spec_doBorder.calls (k : Nat) (a0 : Int) (A1 : Option Addr) (c1 : Nat) (l1 : List Int) (r : List (List Int)) (w : World) (hr1 : Kd.C (Kd.int .i64) w A1 l1.length l1) (hc1 : l1.length ≤ c1) (h : spec_doBorder.f k a0 l1 = some r) :
  Calls Try.prog 30 #[.int .i64 a0,.slice A1 l1.length c1] w fun e w'=>∃ v0_ : Value,e = .returned (v0_)∧Kd.S (Kd.slice 3 (Kd.int .i64)) 24 w' w.heap.size (fun _=>True) v0_ r∧Below w.heap.size w w':=by
 have HR1:=AM hr1;have HC1:=AM hc1;clear hr1 hc1;have HB:=HRf w;have H : ((spec_meBorder.f k a0).bind fun t195=>(spec_doBorder.l0 k l1 t195 ([] : List (List Int)) t195 (t195.length : Int) 0)) = some r:=h;clear h;replace H:=EA H;obtain ⟨t195,A3,H⟩:=H;have H':=AM H;clear H;go_enter Try.func30,Try.ntmps30;go_wp2_with (first|(refine GC 42 ?_;refine GM (some 11) Try.func42 (spec_meBorder.calls k a0 t195 _ A3.out) ?_;rintro e w4 ⟨v196,rfl,ho0,hb⟩;refine ⟨_,rfl,?_⟩;have HO197:=AM (Kd.R_lower ho0 (BZ BB));replace HB:=HS hb;try clear hb ho0;obtain ⟨Ao5,co5,eo5⟩:=Kd.R_slice HO197.out;subst eo5));go_loopg [6,14] k (fun kq v6 v14 w'=>∃ (x6_1 : List (List Int)) (x14_1 : Int),v14 = .int .i64 x14_1∧Aside0 (spec_doBorder.l0 kq l1 t195 x6_1 t195 (t195.length : Int) x14_1 = some r)∧Aside0 (kq ≤ k)∧Aside0 (Kd.R (Kd.int .i64) 3 w' w.heap.size (fun _=>True) (.slice Ao5 t195.length co5) t195)∧Aside0 (Kd.S (Kd.slice 3 (Kd.int .i64)) 24 w' w.heap.size (fun k_=>some k_≠((.slice Ao5 t195.length co5) : Value).ownBlock∧some k_≠((.slice Ao5 t195.length co5) : Value).ownBlock) v6 x6_1)∧Aside0 (Kd.R (Kd.int .i64) 3 w' w.heap.size (fun _=>True) (.slice Ao5 t195.length co5) t195)∧Aside0 (Below w.heap.size w w'))
 case atStart=>exact ⟨(([] : List (List Int))),(0),RF,H',⟨Nat.le_refl _⟩,⟨KR HO197⟩,⟨by first|exact Kd.S_nil _ _ _ _ _|exact Kd.N_nil _ _ _ _ _|exact Kd.V_nil _ _ _ _ _|exact Kd.Q_nil _ _ _ _ _|exact Kd.R_nil _ _ _ _ _⟩,⟨KR HO197⟩,⟨BB⟩⟩
 case round =>
  clear H';try clear c1
  try clear p2
  try clear c3
  try clear c4
  obtain ⟨x6_1,x14_1,rfl,HA,HK1,HO_5,HO_6,HO_12,HB⟩:=hrel;cases gk with
  | zero=>exact absurd HA.out (by simp [spec_doBorder.l0])
  | succ k1 =>
   have H:=HA.out;clear HA;simp only [spec_doBorder.l0] at H;by_cases c6 : x14_1 < (t195.length : Int)
   ·rw [if_pos c6] at H;have c6b0:=DT c6;clear c6;replace H:=IC H;obtain ⟨c7,H⟩:=H;have c7b0:=DT c7;clear c7;replace H:=IC H;obtain ⟨c8,H⟩:=H;have c8b0:=DT c8;clear c8;replace H:=ID H;obtain ⟨c9,H⟩:=H;have c9b0:=beq_eq_false_iff_ne.mpr c9;have c9b1:=bne_iff_ne.mpr c9;have c9b2 : ¬ (t195 = []):=fun h_=>c9 (by rw [h_];rfl)
    obtain ⟨ji10,hji10⟩ : ∃ j_ : Int,(Int.tmod (wrap64 (x14_1 + 1)) (t195.length : Int)) = j_:=⟨_,rfl⟩;replace H : (if 0 ≤ (ji10) then (if (ji10) < (t195.length : Int) then ((spec_doDoor.f l1 (rd t195 x14_1) (rd t195 (ji10))).bind fun t200=>(if t200 = true then (if x6_1.length < 5864062014805 then (spec_doBorder.l0 k1 l1 t195 (x6_1 ++ [(([rd t195 x14_1,rd t195 (ji10)] : List Int))]) t195 (t195.length : Int) (wrap64 (x14_1 + 1))) else (none)) else (spec_doBorder.l0 k1 l1 t195 x6_1 t195 (t195.length : Int) (wrap64 (x14_1 + 1))))) else (none)) else (none)) = some r:=by first|(rw [hji10] at H;exact H)|(simp only [hji10] at H ⊢;exact H)
    replace H:=IC H;obtain ⟨c11,H⟩:=H;have c11b0:=DT c11;clear c11;replace H:=IC H;obtain ⟨c12,H⟩:=H;have c12b0:=DT c12;clear c12;replace H:=EA H;obtain ⟨t200,A13,H⟩:=H;by_cases c14 : t200 = true
    ·subst c14;replace H:=IP H;obtain ⟨y201,hy201⟩ : ∃ y_ : List Int,y_ = (([rd t195 x14_1,rd t195 (ji10)] : List Int)):=⟨_,rfl⟩;replace H : (if x6_1.length < 5864062014805 then (spec_doBorder.l0 k1 l1 t195 (x6_1 ++ [y201]) t195 (t195.length : Int) (wrap64 (x14_1 + 1))) else (none)) = some r:=HY H hy201;have Ny201:=AM hy201;clear hy201;replace H:=IC H;obtain ⟨c15,H⟩:=H;have LMc15:=AM c15;clear c15;obtain ⟨y204,hy204⟩ : ∃ y_ : List (List Int),y_ = (x6_1 ++ [y201]):=⟨_,rfl⟩;replace H : (spec_doBorder.l0 k1 l1 t195 y204 t195 (t195.length : Int) (wrap64 (x14_1 + 1))) = some r:=HY H hy204;have Ny204:=AM hy204;clear hy204;have H':=AM H;clear H;have p198 : 0 ≤ (x14_1 : Int):=OD AS;have q198 : x14_1 < (t195.length : Int):=OD AS;obtain ⟨ad198,e198,hx198_0⟩:=Kd.at_int (Kd.R_reads' HO_12.out).2.2 x14_1 p198 q198;cases e198;replace p198:=ET p198;replace q198:=ET q198;have p199 : 0 ≤ ((ji10) : Int):=OD AS;have q199 : (ji10) < (t195.length : Int):=OD AS;obtain ⟨ad199,e199,hx199_0⟩:=Kd.at_int (Kd.R_reads' HO_5.out).2.2 (ji10) p199 q199;obtain rfl : ad198 = ad199:=(by injection e199);replace p199:=ET p199;replace q199:=ET q199;go_wp2_with (first|((with_reducible refine gate_callee (f:=43) rfl ?_);refine goesL_ (some 30) rfl rfl Try.func43 (by kernel_rfl) rfl #[.slice A1 l1.length c1,.int .i64 (rd t195 x14_1),.int .i64 (rd t195 (ji10))] rfl (by (try simp only [List.map_toArray,List.map_cons,List.map_nil]);first|done|(simp only [hji10];rfl)|rfl|(simp only [List.length_drop,List.length_take];rfl)) ?_;(with_reducible refine (spec_doDoor.calls _ _ l1 (rd t195 x14_1) (rd t195 (ji10)) true _ (CW (Kd.C_below HR1.out HB.out)) HC1.out A13.out).mono ?_);rintro e w' ⟨rfl,⟨nd,rfl⟩⟩;refine ⟨_,rfl,?_⟩)|((with_reducible refine gate_dst (N:=34) rfl ?_);refine Kd.R_lit (Kd.int .i64) _ 3 ?hg (N:=34) ?hd (xs:=([rd t195 x14_1,rd t195 (ji10)] : List Int)) (inner:=[.int .i64 (rd t195 x14_1),.int .i64 (rd t195 (ji10))]) (ok:=fun _=>True) (okp:=fun _=>True) ?hr ?hp (fun _ hk=>hk) trivial (Below.refl _ _) (Nat.le_refl _) (by simp) ?_;(case hd=>rfl);(case hg=>rfl);(case hr=>exact GS);(case hp=>exact (Reps.one (show Kd.M (Kd.int .i64) _ _ _ (rd t195 x14_1) [.int .i64 (rd t195 x14_1)] from rfl) (Reps.one (show Kd.M (Kd.int .i64) _ _ _ (rd t195 (ji10)) [.int .i64 (rd t195 (ji10))] from rfl) (Reps.none _ _))));intro v202 w16 ho17 hb hg_ hnew_;clear hg_ hnew_;(first|rw [← Ny201.out] at ho17|(simp only [Int.reduceToNat] at ho17;rw [← Ny201.out] at ho17));replace HO_6:=SO HO_6 ho17 hb;have HO203:=AM (Kd.R_lower (Kd.R_new' (Kd.R_new' ho17 (Kd.R_lt (KR HO_5))) (Kd.R_lt (KR HO_12))) (BZ BB));replace HO_5:=RO HO_5 ho17 hb;replace HO_12:=RO HO_12 ho17 hb;replace HB:=HS hb;clear hb ho17;obtain ⟨Ao19,co19,eo19⟩:=Kd.R_slice HO203.out;subst eo19)|((with_reducible refine gate_builtin (b:=.append) (xs:=#[.tmp 31,.tmp 35]) rfl ?_);at_builtin;refine Kd.S_append (Kd.slice 3 (Kd.int .i64)) (w0:=w) w.heap.size rfl (.tmp 31) (.tmp 35) 22 24 (.slice none 0 0) 24 rfl Try.underlying22 info24 rfl (by decide) (by omega) u6 x6_1 y201 [.slice Ao19 y201.length co19] (fun k_=>some k_≠(.slice (some ad198) t195.length co5 : Value).ownBlock∧some k_≠(.slice (some ad198) t195.length co5 : Value).ownBlock) (fun k_=>some k_ = (.slice Ao19 y201.length co19 : Value).ownBlock) rfl rfl ?aP (fun k_ hk_=>((Kd.R_mono (ok':=fun k_=>((fun k_=>some k_≠(.slice (some ad198) t195.length co5 : Value).ownBlock∧some k_≠(.slice (some ad198) t195.length co5 : Value).ownBlock)) k_∧some k_≠(u6 : Value).ownBlock) (Kd.R_apart' (HO203.out) (Kd.S_typed HO_6.out) (by decide)) (fun k_ hk=>⟨⟨hk.1.1.2,hk.1.2⟩,hk.2⟩))).1 k_ hk_.symm) ?aF ?aO ?aB ?aS ?aL ?_;(case aP=>exact Kd.M_row (Kd.R_mono (Kd.R_tight rfl (Kd.R_mono (ok':=fun k_=>((fun k_=>some k_≠(.slice (some ad198) t195.length co5 : Value).ownBlock∧some k_≠(.slice (some ad198) t195.length co5 : Value).ownBlock)) k_∧some k_≠(u6 : Value).ownBlock) (Kd.R_apart' (HO203.out) (Kd.S_typed HO_6.out) (by decide)) (fun k_ hk=>⟨⟨hk.1.1.2,hk.1.2⟩,hk.2⟩))) (fun _ h_=>h_)));(case aB=>exact BB);(case aF=>exact (fun k_ hk=>⟨Kd.fresh' (Kd.R_lt (KR HO_5)) k_ hk,Kd.fresh' (Kd.R_lt (KR HO_12)) k_ hk⟩));(case aO=>exact (by (with_reducible repeat (first|apply Kd.S_alloc|apply Kd.S_drewN|apply Kd.S_drew));exact Kd.S_mono HO_6.out (fun k_ hk=>⟨⟨hk.1.1,hk.1.2⟩,fun e_=>hk.2 e_⟩)));(case aS=>exact (BZ BB));(case aL=>have:=LMc15.out;omega);intro v205 w18 ho hb hg hat;rw [← Ny204.out] at ho;replace HO_5:=AM (Kd.R_over' (KR HO_5) (Kd.S_typed (KS HO_6)) (by decide) hg);replace HO_12:=AM (Kd.R_over' (KR HO_12) (Kd.S_typed (KS HO_6)) (by decide) hg);replace HB:=AM hb;have HO206:=AM ho;clear HO_6 HO203;clear ho hb hg hat));go_roundg k1
     case measure=>have:=HK1.out;omega
     case rel=>exact ⟨(y204),(wrap64 (x14_1 + 1)),RF,H',⟨by have:=HK1.out;omega⟩,⟨by (with_reducible repeat (first|apply Kd.R_alloc|apply Kd.R_drewN|apply Kd.R_drew));exact Kd.R_mono HO_5.out (fun _ hk=>trivial)⟩,⟨KS HO206⟩,⟨by (with_reducible repeat (first|apply Kd.R_alloc|apply Kd.R_drewN|apply Kd.R_drew));exact Kd.R_mono HO_12.out (fun _ hk=>trivial)⟩,⟨BB⟩⟩
    ·replace c14:=NF c14;subst c14;replace H:=IN H;have H':=AM H;clear H;have p198 : 0 ≤ (x14_1 : Int):=OD AS;have q198 : x14_1 < (t195.length : Int):=OD AS;obtain ⟨ad198,e198,hx198_0⟩:=Kd.at_int (Kd.R_reads' HO_12.out).2.2 x14_1 p198 q198;cases e198;replace p198:=ET p198;replace q198:=ET q198;have p199 : 0 ≤ ((ji10) : Int):=OD AS;have q199 : (ji10) < (t195.length : Int):=OD AS;obtain ⟨ad199,e199,hx199_0⟩:=Kd.at_int (Kd.R_reads' HO_5.out).2.2 (ji10) p199 q199;obtain rfl : ad198 = ad199:=(by injection e199);replace p199:=ET p199;replace q199:=ET q199;go_wp2_with (first|((with_reducible refine gate_callee (f:=43) rfl ?_);refine goesL_ (some 30) rfl rfl Try.func43 (by kernel_rfl) rfl #[.slice A1 l1.length c1,.int .i64 (rd t195 x14_1),.int .i64 (rd t195 (ji10))] rfl (by (try simp only [List.map_toArray,List.map_cons,List.map_nil]);first|done|(simp only [hji10];rfl)|rfl|(simp only [List.length_drop,List.length_take];rfl)) ?_;(with_reducible refine (spec_doDoor.calls _ _ l1 (rd t195 x14_1) (rd t195 (ji10)) false _ (CW (Kd.C_below HR1.out HB.out)) HC1.out A13.out).mono ?_);rintro e w' ⟨rfl,⟨nd,rfl⟩⟩;refine ⟨_,rfl,?_⟩));go_roundg k1
     case measure=>have:=HK1.out;omega
     case rel=>exact ⟨(x6_1),(wrap64 (x14_1 + 1)),RF,H',⟨by have:=HK1.out;omega⟩,⟨KR HO_5⟩,⟨KS HO_6⟩,⟨KR HO_12⟩,⟨BB⟩⟩
   ·rw [if_neg c6] at H;have c6b0:=DF c6;clear c6;obtain rfl:=Option.some.inj H;go_wp2;go_ret;exact ⟨_,RE,by (with_reducible repeat (first|apply Kd.S_alloc|apply Kd.S_drewN|apply Kd.S_drew));exact Kd.S_mono HO_6.out (fun _ hk=>trivial),BB⟩

/-! ### spec_doFull: function 32 -/
def spec_doFull.l0 : Nat→List Int→Int→List Int→Int→Int→Option (Bool)
 | 0,_,_,_,_,_=>none
 | k + 1,x0,x5,x8,x9,x10=>if x10 < x9 then (if 0 ≤ x10 then (if x10 < (x8.length : Int) then (if 0 ≤ (rd x8 x10) then (if (rd x8 x10) < (x0.length : Int) then (if 0 ≤ (rd x0 (rd x8 x10)) then (spec_doFull.l0 k x0 (Go.bits .or .i64 x5 (shl .i64 1 (rd x0 (rd x8 x10)))) x8 x9 (wrap64 (x10 + 1))) else (none)) else (none)) else (none)) else (none)) else (none)) else (some (x5 == 7))
def spec_doFull.f (k : Nat) (l0 : List Int) (l1 : List Int) : Option (Bool):=spec_doFull.l0 k l0 0 l1 (l1.length : Int) 0
theorem spec_doFull.mono_l : ∀ k,(∀ y0 y1 y2 y3 y4,LeO (spec_doFull.l0 k y0 y1 y2 y3 y4) (spec_doFull.l0 (k + 1) y0 y1 y2 y3 y4))
 | 0=>fun _ _ _ _ _ r h=>by simp [spec_doFull.l0] at h
 | k + 1=>by
  have ih0:=spec_doFull.mono_l k
  ·intro y0 y1 y2 y3 y4
   unfold spec_doFull.l0
   exact MO
theorem spec_doFull.mono : ∀ a0 a1 k,LeO (spec_doFull.f k a0 a1) (spec_doFull.f (k + 1) a0 a1):=by
 intro a0 a1 k;have ih0:=spec_doFull.mono_l k;unfold spec_doFull.f
 exact MO
theorem spec_doFull.calls (k : Nat) (A0 : Option Addr) (c0 : Nat) (l0 : List Int) (A1 : Option Addr) (c1 : Nat) (l1 : List Int) (r : Bool) (w : World) (hr0 : Kd.C (Kd.int .i64) w A0 l0.length l0) (hc0 : l0.length ≤ c0) (hr1 : Kd.C (Kd.int .i64) w A1 l1.length l1) (hc1 : l1.length ≤ c1) (h : spec_doFull.f k l0 l1 = some r) :
  Calls Try.prog 32 #[.slice A0 l0.length c0,.slice A1 l1.length c1] w fun e w'=>e = .returned (.bool r)∧Drawn0 w w':=by
 have HR0:=AM hr0;have HC0:=AM hc0;clear hr0 hc0;have HR1:=AM hr1;have HC1:=AM hc1;clear hr1 hc1;have H : (spec_doFull.l0 k l0 0 l1 (l1.length : Int) 0) = some r:=h;clear h;have H':=AM H;clear H;go_enter Try.func32,Try.ntmps32;go_wp2;go_loopg [5,10] k (fun kq v5 v10 w'=>∃ (x5_1 : Int) (x10_1 : Int),v5 = .int .i64 x5_1∧v10 = .int .i64 x10_1∧Aside0 (spec_doFull.l0 kq l0 x5_1 l1 (l1.length : Int) x10_1 = some r)∧Aside0 (kq ≤ k)∧Drawn0 w w')
 case atStart=>exact ⟨(0),(0),RF,RF,H',⟨Nat.le_refl _⟩,by repeat (first|exact Drawn0.refl _|apply Drawn0.step)⟩
 case round =>
  clear H';try clear c1
  try clear p2
  obtain ⟨x5_1,x10_1,rfl,rfl,HA,HK1,⟨m1,rfl⟩⟩:=hrel;cases gk with
  | zero=>exact absurd HA.out (by simp [spec_doFull.l0])
  | succ k1 =>
   have H:=HA.out;clear HA;simp only [spec_doFull.l0] at H;by_cases c3 : x10_1 < (l1.length : Int)
   ·rw [if_pos c3] at H;have c3b0:=DT c3;clear c3;replace H:=IC H;obtain ⟨c4,H⟩:=H;have c4b0:=DT c4;clear c4;replace H:=IC H;obtain ⟨c5,H⟩:=H;have c5b0:=DT c5;clear c5;replace H:=IC H;obtain ⟨c6,H⟩:=H;have c6b0:=DT c6;clear c6;replace H:=IC H;obtain ⟨c7,H⟩:=H;have c7b0:=DT c7;clear c7;replace H:=IC H;obtain ⟨c8,H⟩:=H;have c8b0:=ET c8;have c8b1:=DT c8;clear c8;obtain ⟨ji9,hji9⟩ : ∃ j_ : Int,(shl .i64 1 (rd l0 (rd l1 x10_1))) = j_:=⟨_,rfl⟩;replace H : (spec_doFull.l0 k1 l0 (Go.bits .or .i64 x5_1 (ji9)) l1 (l1.length : Int) (wrap64 (x10_1 + 1))) = some r:=by first|(rw [hji9] at H;exact H)|(simp only [hji9] at H ⊢;exact H)
    have hji9_ : (IntKind.i64.wrap (1 * 2 ^ min (rd l0 (rd l1 x10_1)).toNat 64)) = ji9:=hji9;have hji9z : (rd l0 (rd l1 x10_1)) ≤ 64→(IntKind.i64.wrap (1 * 2 ^ (rd l0 (rd l1 x10_1)).toNat)) = ji9:=shl_small hji9;have hji9u : (IntKind.i64.wrap (2 ^ min (rd l0 (rd l1 x10_1)).toNat 64)) = ji9:=by have h_:=hji9_;rw [Int.one_mul] at h_;exact h_
    have hji9v : (rd l0 (rd l1 x10_1)) ≤ 64→(IntKind.i64.wrap (2 ^ (rd l0 (rd l1 x10_1)).toNat)) = ji9:=fun hle_=>by have h_:=hji9z hle_;rw [Int.one_mul] at h_;exact h_
    have hji9y : (wrap64 (1 * 2 ^ min (rd l0 (rd l1 x10_1)).toNat 64)) = ji9:=(i64_w _).symm.trans hji9_;have hji9x : (rd l0 (rd l1 x10_1)) ≤ 64→(wrap64 (1 * 2 ^ (rd l0 (rd l1 x10_1)).toNat)) = ji9:=fun h_=>(i64_w _).symm.trans (hji9z h_)
    have H':=AM H;clear H;have p207 : 0 ≤ (x10_1 : Int):=OD AS;have q207 : x10_1 < (l1.length : Int):=OD AS;obtain ⟨ad207,e207,hx207_0⟩:=Kd.at_int HR1.out x10_1 p207 q207;cases e207;replace p207:=ET p207;replace q207:=ET q207;have p208 : 0 ≤ ((rd l1 x10_1) : Int):=OD AS;have q208 : (rd l1 x10_1) < (l0.length : Int):=OD AS;obtain ⟨ad208,e208,hx208_0⟩:=Kd.at_int HR0.out (rd l1 x10_1) p208 q208;cases e208;replace p208:=ET p208;replace q208:=ET q208;go_wp2;go_roundg k1
    case measure=>have:=HK1.out;omega
    case rel=>exact ⟨(Go.bits .or .i64 x5_1 (ji9)),(wrap64 (x10_1 + 1)),(by first|rfl|(simp;done)|(simp only [← hji9] <;> (first|rfl|simp))|(simp [*];done)|(simp [*,wrap64];done)),RF,H',⟨by have:=HK1.out;omega⟩,by repeat (first|exact Drawn0.refl _|apply Drawn0.step)⟩
   ·rw [if_neg c3] at H;have c3b0:=DF c3;clear c3;obtain rfl:=Option.some.inj H;go_wp2;go_ret;exact ⟨RF,DR⟩

/-! ### spec_l1Has: function 74 -/
def spec_l1Has.l0 : Nat→Int→List Int→Int→Int→Option (Bool)
 | 0,_,_,_,_=>none
 | k + 1,x1,x7,x8,x9=>if x9 < x8 then (if 0 ≤ x9 then (if x9 < (x7.length : Int) then (if (rd x7 x9) = x1 then (some true) else (spec_l1Has.l0 k x1 x7 x8 (wrap64 (x9 + 1)))) else (none)) else (none)) else (some false)
def spec_l1Has.f (k : Nat) (l0 : List Int) (a1 : Int) : Option (Bool):=spec_l1Has.l0 k a1 l0 (l0.length : Int) 0
theorem spec_l1Has.mono_l : ∀ k,(∀ y0 y1 y2 y3,LeO (spec_l1Has.l0 k y0 y1 y2 y3) (spec_l1Has.l0 (k + 1) y0 y1 y2 y3))
 | 0=>fun _ _ _ _ r h=>by simp [spec_l1Has.l0] at h
 | k + 1=>by
  have ih0:=spec_l1Has.mono_l k
  ·intro y0 y1 y2 y3
   unfold spec_l1Has.l0
   exact MO
theorem spec_l1Has.mono : ∀ a0 a1 k,LeO (spec_l1Has.f k a0 a1) (spec_l1Has.f (k + 1) a0 a1):=by
 intro a0 a1 k;have ih0:=spec_l1Has.mono_l k;unfold spec_l1Has.f
 exact MO
theorem spec_l1Has.calls (k : Nat) (A0 : Option Addr) (c0 : Nat) (l0 : List Int) (a1 : Int) (r : Bool) (w : World) (hr0 : Kd.C (Kd.int .i64) w A0 l0.length l0) (hc0 : l0.length ≤ c0) (h : spec_l1Has.f k l0 a1 = some r) :
  Calls Try.prog 74 #[.slice A0 l0.length c0,.int .i64 a1] w fun e w'=>e = .returned (.bool r)∧Drawn0 w w':=by
 have HR0:=AM hr0;have HC0:=AM hc0;clear hr0 hc0;have H : (spec_l1Has.l0 k a1 l0 (l0.length : Int) 0) = some r:=h;clear h;have H':=AM H;clear H;go_enter Try.func74,Try.ntmps74;go_wp2;go_loopg [9] k (fun kq v9 w'=>∃ (x9_1 : Int),v9 = .int .i64 x9_1∧Aside0 (spec_l1Has.l0 kq a1 l0 (l0.length : Int) x9_1 = some r)∧Aside0 (kq ≤ k)∧Drawn0 w w')
 case atStart=>exact ⟨(0),RF,H',⟨Nat.le_refl _⟩,by repeat (first|exact Drawn0.refl _|apply Drawn0.step)⟩
 case round =>
  clear H';try clear p2
  obtain ⟨x9_1,rfl,HA,HK1,⟨m1,rfl⟩⟩:=hrel;cases gk with
  | zero=>exact absurd HA.out (by simp [spec_l1Has.l0])
  | succ k1 =>
   have H:=HA.out;clear HA;simp only [spec_l1Has.l0] at H;by_cases c3 : x9_1 < (l0.length : Int)
   ·rw [if_pos c3] at H;have c3b0:=DT c3;clear c3;replace H:=IC H;obtain ⟨c4,H⟩:=H;have c4b0:=DT c4;clear c4;replace H:=IC H;obtain ⟨c5,H⟩:=H;have c5b0:=DT c5;clear c5;by_cases c6 : (rd l0 x9_1) = a1
    ·rw [if_pos c6] at H;have c6b0:=QT c6;have c6b1:=bne_eq_false_iff_eq.mpr c6;clear c6;obtain rfl:=Option.some.inj H;have p209 : 0 ≤ (x9_1 : Int):=OD AS;have q209 : x9_1 < (l0.length : Int):=OD AS;obtain ⟨ad209,e209,hx209_0⟩:=Kd.at_int HR0.out x9_1 p209 q209;cases e209;replace p209:=ET p209;replace q209:=ET q209;go_wp2;go_ret;exact ⟨RF,DR⟩
    ·rw [if_neg c6] at H;have c6b0:=beq_eq_false_iff_ne.mpr c6;have c6b1:=bne_iff_ne.mpr c6;have H':=AM H;clear H;have p209 : 0 ≤ (x9_1 : Int):=OD AS;have q209 : x9_1 < (l0.length : Int):=OD AS;obtain ⟨ad209,e209,hx209_0⟩:=Kd.at_int HR0.out x9_1 p209 q209;cases e209;replace p209:=ET p209;replace q209:=ET q209;go_wp2;go_roundg k1
     case measure=>have:=HK1.out;omega
     case rel=>exact ⟨(wrap64 (x9_1 + 1)),RF,H',⟨by have:=HK1.out;omega⟩,by repeat (first|exact Drawn0.refl _|apply Drawn0.step)⟩
   ·rw [if_neg c3] at H;have c3b0:=DF c3;clear c3;obtain rfl:=Option.some.inj H;go_wp2;go_ret;exact ⟨RF,DR⟩

/-! ### spec_meWith: function 59 -/
def spec_meWith.l0 : Nat→Int→Int→List Int→List (List Int)→Int→Int→Option (List Int)
 | 0,_,_,_,_,_,_=>none
 | k + 1,x1,x2,x7,x10,x11,x12=>if x12 < x11 then (if 0 ≤ x12 then (if x12 < (x10.length : Int) then ((spec_l1Has.f k (rd_L1 x10 x12) x1).bind fun t211=>(if t211 = true then ((spec_l1Has.f k (rd_L1 x10 x12) x2).bind fun t212=>(if t212 = true then (if x7.length < 17592186044416 then (spec_meWith.l0 k x1 x2 (x7 ++ [x12]) x10 x11 (wrap64 (x12 + 1))) else (none)) else (spec_meWith.l0 k x1 x2 x7 x10 x11 (wrap64 (x12 + 1))))) else (spec_meWith.l0 k x1 x2 x7 x10 x11 (wrap64 (x12 + 1))))) else (none)) else (none)) else (some x7)
def spec_meWith.f (k : Nat) (l0 : List (List Int)) (a1 : Int) (a2 : Int) : Option (List Int):=spec_meWith.l0 k a1 a2 ([] : List Int) l0 (l0.length : Int) 0
theorem spec_meWith.mono_l : ∀ k,(∀ y0 y1 y2 y3 y4 y5,LeO (spec_meWith.l0 k y0 y1 y2 y3 y4 y5) (spec_meWith.l0 (k + 1) y0 y1 y2 y3 y4 y5))
 | 0=>fun _ _ _ _ _ _ r h=>by simp [spec_meWith.l0] at h
 | k + 1=>by
  have ih0:=spec_meWith.mono_l k
  ·intro y0 y1 y2 y3 y4 y5
   unfold spec_meWith.l0
   have m0:=@spec_l1Has.mono
   exact MO
theorem spec_meWith.mono : ∀ a0 a1 a2 k,LeO (spec_meWith.f k a0 a1 a2) (spec_meWith.f (k + 1) a0 a1 a2):=by
 intro a0 a1 a2 k;have ih0:=spec_meWith.mono_l k;unfold spec_meWith.f
 have m0:=@spec_l1Has.mono
 exact MO
theorem spec_meWith.calls (k : Nat) (A0 : Option Addr) (c0 : Nat) (l0 : List (List Int)) (a1 : Int) (a2 : Int) (r : List Int) (w : World) (hr0 : Kd.C (Kd.slice 3 (Kd.int .i64)) w A0 l0.length l0) (hc0 : l0.length ≤ c0) (h : spec_meWith.f k l0 a1 a2 = some r) :
  Calls Try.prog 59 #[.slice A0 l0.length c0,.int .i64 a1,.int .i64 a2] w fun e w'=>∃ v0_ : Value,e = .returned (v0_)∧Kd.R (Kd.int .i64) 3 w' w.heap.size (fun _=>True) v0_ r∧Below w.heap.size w w':=by
 have HR0:=AM hr0;have HC0:=AM hc0;clear hr0 hc0;have HB:=HRf w;have H : (spec_meWith.l0 k a1 a2 ([] : List Int) l0 (l0.length : Int) 0) = some r:=h;clear h;have H':=AM H;clear H;go_enter Try.func59,Try.ntmps59;go_wp2;go_loopg [7,12] k (fun kq v7 v12 w'=>∃ (x7_1 : List Int) (x12_1 : Int),v12 = .int .i64 x12_1∧Aside0 (spec_meWith.l0 kq a1 a2 x7_1 l0 (l0.length : Int) x12_1 = some r)∧Aside0 (kq ≤ k)∧Aside0 (Kd.R (Kd.int .i64) 3 w' w.heap.size (fun _=>True) v7 x7_1)∧Aside0 (Below w.heap.size w w'))
 case atStart=>exact ⟨(([] : List Int)),(0),RF,H',⟨Nat.le_refl _⟩,⟨by first|exact Kd.R_nil _ _ _ _ _|exact Kd.N_nil _ _ _ _ _|exact Kd.V_nil _ _ _ _ _|exact Kd.Q_nil _ _ _ _ _|exact Kd.S_nil _ _ _ _ _⟩,⟨BB⟩⟩
 case round =>
  clear H';try clear p2
  obtain ⟨x7_1,x12_1,rfl,HA,HK1,HO_7,HB⟩:=hrel;cases gk with
  | zero=>exact absurd HA.out (by simp [spec_meWith.l0])
  | succ k1 =>
   have H:=HA.out;clear HA;simp only [spec_meWith.l0] at H;by_cases c4 : x12_1 < (l0.length : Int)
   ·rw [if_pos c4] at H;have c4b0:=DT c4;clear c4;replace H:=IC H;obtain ⟨c5,H⟩:=H;have c5b0:=DT c5;clear c5;replace H:=IC H;obtain ⟨c6,H⟩:=H;have c6b0:=DT c6;clear c6;replace H:=EA H;obtain ⟨t211,A7,H⟩:=H;by_cases c8 : t211 = true
    ·subst c8;replace H:=IP H;replace H:=EA H;obtain ⟨t212,A9,H⟩:=H;by_cases c10 : t212 = true
     ·subst c10;replace H:=IP H;replace H:=IC H;obtain ⟨c11,H⟩:=H;have LMc11:=AM c11;clear c11;obtain ⟨y213,hy213⟩ : ∃ y_ : List Int,y_ = (x7_1 ++ [x12_1]):=⟨_,rfl⟩;replace H : (spec_meWith.l0 k1 a1 a2 y213 l0 (l0.length : Int) (wrap64 (x12_1 + 1))) = some r:=HY H hy213;have Ny213:=AM hy213;clear hy213;have H':=AM H;clear H;have p210 : 0 ≤ (x12_1 : Int):=OD AS;have q210 : x12_1 < (l0.length : Int):=OD AS;obtain ⟨ad210,A210_0,c210_0,e210,hx210_0,hl210_0,hi210_0⟩:=at_L1 HR0.out x12_1 p210 q210;cases e210;try (replace hx210_0:=LC hx210_0)
      have HR210_0:=AM hi210_0;have HC210_0:=AM hl210_0;clear hi210_0 hl210_0;replace p210:=ET p210;replace q210:=ET q210;go_wp2_with (first|(refine GC 74 ?_;refine GM (some 19) Try.func74 (spec_l1Has.calls k1 _ _ (rd_L1 l0 x12_1) a1 true _ ?side1 ?side2 A7.out) ?_;(case side1=>exact CW (Kd.C_below HR210_0.out HB.out));(case side2=>exact HC210_0.out);rintro e w' ⟨rfl,⟨nd,rfl⟩⟩;refine ⟨_,rfl,?_⟩)|(go_at_call 74;(with_reducible refine (spec_l1Has.calls k1 _ _ (rd_L1 l0 x12_1) a2 true _ ?side1 ?side2 A9.out).mono ?_);(case side1=>exact CW (Kd.C_below HR210_0.out BB));(case side2=>exact HC210_0.out);rintro e w' ⟨rfl,⟨nd,rfl⟩⟩)|((with_reducible refine gate_builtin (b:=.append) (xs:=#[.tmp 25,.tmp 27]) rfl ?_);at_builtin;refine Kd.R_append (Kd.int .i64) (w0:=w) w.heap.size rfl (.tmp 25) (.tmp 27) 24 3 (.int .i64 0) 8 rfl Try.underlying24 info3 rfl (by decide) (by omega) u7 x7_1 x12_1 [.int .i64 x12_1] (fun _=>True) (fun _=>False) rfl rfl ?aP (fun _ hk=>hk.elim) ?aF ?aO ?aB ?aS ?aL ?_;(case aP=>exact rfl);(case aB=>exact BB);(case aF=>exact (fun _ _=>trivial));(case aO=>exact (KR HO_7));(case aS=>exact (BZ BB));(case aL=>have:=LMc11.out;omega);intro v214 w12 ho hb hg hat;rw [← Ny213.out] at ho;replace HB:=AM hb;have HO215:=AM ho;clear HO_7;clear ho hb hg hat));go_roundg k1
      case measure=>have:=HK1.out;omega
      case rel=>exact ⟨(y213),(wrap64 (x12_1 + 1)),RF,H',⟨by have:=HK1.out;omega⟩,⟨KR HO215⟩,⟨BB⟩⟩
     ·replace c10:=NF c10;subst c10;replace H:=IN H;have H':=AM H;clear H;have p210 : 0 ≤ (x12_1 : Int):=OD AS;have q210 : x12_1 < (l0.length : Int):=OD AS;obtain ⟨ad210,A210_0,c210_0,e210,hx210_0,hl210_0,hi210_0⟩:=at_L1 HR0.out x12_1 p210 q210;cases e210;try (replace hx210_0:=LC hx210_0)
      have HR210_0:=AM hi210_0;have HC210_0:=AM hl210_0;clear hi210_0 hl210_0;replace p210:=ET p210;replace q210:=ET q210;go_wp2_with (first|(refine GC 74 ?_;refine GM (some 19) Try.func74 (spec_l1Has.calls k1 _ _ (rd_L1 l0 x12_1) a1 true _ ?side1 ?side2 A7.out) ?_;(case side1=>exact CW (Kd.C_below HR210_0.out HB.out));(case side2=>exact HC210_0.out);rintro e w' ⟨rfl,⟨nd,rfl⟩⟩;refine ⟨_,rfl,?_⟩)|(go_at_call 74;(with_reducible refine (spec_l1Has.calls k1 _ _ (rd_L1 l0 x12_1) a2 false _ ?side1 ?side2 A9.out).mono ?_);(case side1=>exact CW (Kd.C_below HR210_0.out BB));(case side2=>exact HC210_0.out);rintro e w' ⟨rfl,⟨nd,rfl⟩⟩));go_roundg k1
      case measure=>have:=HK1.out;omega
      case rel=>exact ⟨(x7_1),(wrap64 (x12_1 + 1)),RF,H',⟨by have:=HK1.out;omega⟩,⟨KR HO_7⟩,⟨BB⟩⟩
    ·replace c8:=NF c8;subst c8;replace H:=IN H;have H':=AM H;clear H;have p210 : 0 ≤ (x12_1 : Int):=OD AS;have q210 : x12_1 < (l0.length : Int):=OD AS;obtain ⟨ad210,A210_0,c210_0,e210,hx210_0,hl210_0,hi210_0⟩:=at_L1 HR0.out x12_1 p210 q210;cases e210;try (replace hx210_0:=LC hx210_0)
     have HR210_0:=AM hi210_0;have HC210_0:=AM hl210_0;clear hi210_0 hl210_0;replace p210:=ET p210;replace q210:=ET q210;go_wp2_with (first|(refine GC 74 ?_;refine GM (some 19) Try.func74 (spec_l1Has.calls k1 _ _ (rd_L1 l0 x12_1) a1 false _ (CW (Kd.C_below HR210_0.out HB.out)) HC210_0.out A7.out) ?_;rintro e w' ⟨rfl,⟨nd,rfl⟩⟩;refine ⟨_,rfl,?_⟩));go_roundg k1
     case measure=>have:=HK1.out;omega
     case rel=>exact ⟨(x7_1),(wrap64 (x12_1 + 1)),RF,H',⟨by have:=HK1.out;omega⟩,⟨KR HO_7⟩,⟨BB⟩⟩
   ·rw [if_neg c4] at H;have c4b0:=DF c4;clear c4;obtain rfl:=Option.some.inj H;go_wp2;go_ret;exact ⟨_,RE,KR HO_7,BB⟩

end Go.Proofs.Ytcecimigkndakab.PFnExactFairCut
