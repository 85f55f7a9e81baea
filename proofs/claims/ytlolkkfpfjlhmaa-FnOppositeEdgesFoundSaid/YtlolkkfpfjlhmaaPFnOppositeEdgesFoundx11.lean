-- Written by a program of this session (wip/tools/pp.sh) out of the translation; Lean checks it.
import Derived.Test.YtlolkkfpfjlhmaaPFnOppositeEdgesFoundx10
namespace Go.Proofs.Ytlolkkfpfjlhmaa.PFnOppositeEdgesFound
open Go.RowKit Go.Proofs.YtlolkkfpfjlhmaaOwn Go.Proofs.YtlolkkfpfjlhmaaW.PrintWords Go.Proofs.YtlolkkfpfjlhmaaW.PrintLast Go.Proofs.YtlolkkfpfjlhmaaW.PrintMore
attribute [local go_sem] max2_int min2_int max_two min_two max_three min_three max_four min_four   -- for this text's walks alone
set_option linter.unusedVariables false
set_option maxHeartbeats 8000000
set_option maxRecDepth 100000
set_option linter.unusedSimpArgs false

/-! ### spec_opDoor: function 62 -/
def spec_opDoor.f (l0 : List Int) (a1 : Int) (a2 : Int) : Option (Bool):=if 0 ≤ a1 then (if a1 < (l0.length : Int) then (if 0 ≤ a2 then (if a2 < (l0.length : Int) then (some ((wrap64 ((rd l0 a1) + (rd l0 a2))) == 3)) else (none)) else (none)) else (none)) else (none)
theorem spec_opDoor.calls (A0 : Option Addr) (c0 : Nat) (l0 : List Int) (a1 : Int) (a2 : Int) (r : Bool) (w : World) (hr0 : Kd.C (Kd.int .i64) w A0 l0.length l0) (hc0 : l0.length ≤ c0) (h : spec_opDoor.f l0 a1 a2 = some r) :
  Calls Try.prog 62 #[.slice A0 l0.length c0,.int .i64 a1,.int .i64 a2] w fun e w'=>e = .returned (.bool r)∧Drawn0 w w':=by
 have HR0:=AM hr0;have HC0:=AM hc0;clear hr0 hc0;have H : (if 0 ≤ a1 then (if a1 < (l0.length : Int) then (if 0 ≤ a2 then (if a2 < (l0.length : Int) then (some ((wrap64 ((rd l0 a1) + (rd l0 a2))) == 3)) else (none)) else (none)) else (none)) else (none)) = some r:=h;clear h;replace H:=IC H;obtain ⟨c4,H⟩:=H;have c4b0:=DT c4;clear c4;replace H:=IC H;obtain ⟨c5,H⟩:=H;have c5b0:=DT c5;clear c5;replace H:=IC H;obtain ⟨c6,H⟩:=H;have c6b0:=DT c6;clear c6;replace H:=IC H;obtain ⟨c7,H⟩:=H;have c7b0:=DT c7;clear c7;obtain rfl:=Option.some.inj H;have p376 : 0 ≤ (a1 : Int):=OD AS;have q376 : a1 < (l0.length : Int):=OD AS;obtain ⟨ad376,e376,hx376_0⟩:=Kd.at_int HR0.out a1 p376 q376;cases e376;replace p376:=ET p376;replace q376:=ET q376;have p377 : 0 ≤ (a2 : Int):=OD AS;have q377 : a2 < (l0.length : Int):=OD AS;obtain ⟨ad377,e377,hx377_0⟩:=Kd.at_int HR0.out a2 p377 q377;obtain rfl : ad376 = ad377:=(by injection e377);replace p377:=ET p377;replace q377:=ET q377;go_enter Try.func62,Try.ntmps62;go_wp2;repeat (go_quiet (fail);try go_wp2)
 go_ret;exact ⟨RF,DR⟩

/-! ### spec_opDoors: function 32 -/
def spec_opDoors.l0 : Nat→List Int→List Int→List (List Int)→List Int→Int→Int→Option ((List (List Int)))
 | 0,_,_,_,_,_,_=>none
 | k + 1,x1,x5,x6,x12,x13,x14=>if x14 < x13 then (if 0 ≤ x14 then (if x14 < (x12.length : Int) then (if (x5.length : Int) = 0 then (none) else (if 0 ≤ (Int.tmod (wrap64 (x14 + 1)) (x5.length : Int)) then (if (Int.tmod (wrap64 (x14 + 1)) (x5.length : Int)) < (x5.length : Int) then ((spec_opDoor.f x1 (rd x12 x14) (rd x5 (Int.tmod (wrap64 (x14 + 1)) (x5.length : Int)))).bind fun t383=>(if t383 = true then (if x6.length < 5864062014805 then (spec_opDoors.l0 k x1 x5 (x6 ++ [(([rd x12 x14,rd x5 (Int.tmod (wrap64 (x14 + 1)) (x5.length : Int))] : List Int))]) x12 x13 (wrap64 (x14 + 1))) else (none)) else (spec_opDoors.l0 k x1 x5 x6 x12 x13 (wrap64 (x14 + 1))))) else (none)) else (none))) else (none)) else (none)) else (some x6)
def spec_opDoors.f (k : Nat) (a0 : Int) (l1 : List Int) : Option ((List (List Int))):=(spec_opBorder.f k a0).bind fun t378=>(spec_opDoors.l0 k l1 t378 ([] : List (List Int)) t378 (t378.length : Int) 0)
theorem spec_opDoors.mono_l : ∀ k,(∀ y0 y1 y2 y3 y4 y5,LeO (spec_opDoors.l0 k y0 y1 y2 y3 y4 y5) (spec_opDoors.l0 (k + 1) y0 y1 y2 y3 y4 y5))
 | 0=>fun _ _ _ _ _ _ r h=>by simp [spec_opDoors.l0] at h
 | k + 1=>by
  have ih0:=spec_opDoors.mono_l k
  ·intro y0 y1 y2 y3 y4 y5
   unfold spec_opDoors.l0
   have m0:=@spec_opBorder.mono
   exact MO
theorem spec_opDoors.mono : ∀ a0 a1 k,LeO (spec_opDoors.f k a0 a1) (spec_opDoors.f (k + 1) a0 a1):=by
 intro a0 a1 k;have ih0:=spec_opDoors.mono_l k;unfold spec_opDoors.f
 have m0:=@spec_opBorder.mono
 exact MO
theorem spec_opDoors.calls (k : Nat) (a0 : Int) (A1 : Option Addr) (c1 : Nat) (l1 : List Int) (r : List (List Int)) (w : World) (hr1 : Kd.C (Kd.int .i64) w A1 l1.length l1) (hc1 : l1.length ≤ c1) (h : spec_opDoors.f k a0 l1 = some r) :
  Calls Try.prog 32 #[.int .i64 a0,.slice A1 l1.length c1] w fun e w'=>∃ v0_ : Value,e = .returned (v0_)∧Kd.S (Kd.slice 3 (Kd.int .i64)) 24 w' w.heap.size (fun _=>True) v0_ r∧Below w.heap.size w w':=by
 have HR1:=AM hr1;have HC1:=AM hc1;clear hr1 hc1;have HB:=HRf w;have H : ((spec_opBorder.f k a0).bind fun t378=>(spec_opDoors.l0 k l1 t378 ([] : List (List Int)) t378 (t378.length : Int) 0)) = some r:=h;clear h;replace H:=EA H;obtain ⟨t378,A3,H⟩:=H;have H':=AM H;clear H;go_enter Try.func32,Try.ntmps32;go_wp2_with (first|(refine GC 30 ?_;refine GM (some 11) Try.func30 (spec_opBorder.calls k a0 t378 _ A3.out) ?_;rintro e w4 ⟨v379,rfl,ho0,hb⟩;refine ⟨_,rfl,?_⟩;have HO380:=AM (Kd.R_lower ho0 (BZ BB));replace HB:=HS hb;try clear hb ho0;obtain ⟨Ao5,co5,eo5⟩:=Kd.R_slice HO380.out;subst eo5));go_loopg [6,14] k (fun kq v6 v14 w'=>∃ (x6_1 : List (List Int)) (x14_1 : Int),v14 = .int .i64 x14_1∧Aside0 (spec_opDoors.l0 kq l1 t378 x6_1 t378 (t378.length : Int) x14_1 = some r)∧Aside0 (kq ≤ k)∧Aside0 (Kd.R (Kd.int .i64) 3 w' w.heap.size (fun _=>True) (.slice Ao5 t378.length co5) t378)∧Aside0 (Kd.S (Kd.slice 3 (Kd.int .i64)) 24 w' w.heap.size (fun k_=>some k_≠((.slice Ao5 t378.length co5) : Value).ownBlock∧some k_≠((.slice Ao5 t378.length co5) : Value).ownBlock) v6 x6_1)∧Aside0 (Kd.R (Kd.int .i64) 3 w' w.heap.size (fun _=>True) (.slice Ao5 t378.length co5) t378)∧Aside0 (Below w.heap.size w w'))
 case atStart=>exact ⟨(([] : List (List Int))),(0),RF,H',⟨Nat.le_refl _⟩,⟨KR HO380⟩,⟨by first|exact Kd.S_nil _ _ _ _ _|exact Kd.N_nil _ _ _ _ _|exact Kd.V_nil _ _ _ _ _|exact Kd.Q_nil _ _ _ _ _|exact Kd.R_nil _ _ _ _ _⟩,⟨KR HO380⟩,⟨BB⟩⟩
 case round =>
  clear H';try clear c1
  try clear p2
  try clear c3
  obtain ⟨x6_1,x14_1,rfl,HA,HK1,HO_5,HO_6,HO_12,HB⟩:=hrel;cases gk with
  | zero=>exact absurd HA.out (by simp [spec_opDoors.l0])
  | succ k1 =>
   have H:=HA.out;clear HA;simp only [spec_opDoors.l0] at H;by_cases c6 : x14_1 < (t378.length : Int)
   ·rw [if_pos c6] at H;have c6b0:=DT c6;clear c6;replace H:=IC H;obtain ⟨c7,H⟩:=H;have c7b0:=DT c7;clear c7;replace H:=IC H;obtain ⟨c8,H⟩:=H;have c8b0:=DT c8;clear c8;replace H:=ID H;obtain ⟨c9,H⟩:=H;have c9b0:=beq_eq_false_iff_ne.mpr c9;have c9b1:=bne_iff_ne.mpr c9;have c9b2 : ¬ (t378 = []):=fun h_=>c9 (by rw [h_];rfl)
    obtain ⟨ji10,hji10⟩ : ∃ j_ : Int,(Int.tmod (wrap64 (x14_1 + 1)) (t378.length : Int)) = j_:=⟨_,rfl⟩;replace H : (if 0 ≤ (ji10) then (if (ji10) < (t378.length : Int) then ((spec_opDoor.f l1 (rd t378 x14_1) (rd t378 (ji10))).bind fun t383=>(if t383 = true then (if x6_1.length < 5864062014805 then (spec_opDoors.l0 k1 l1 t378 (x6_1 ++ [(([rd t378 x14_1,rd t378 (ji10)] : List Int))]) t378 (t378.length : Int) (wrap64 (x14_1 + 1))) else (none)) else (spec_opDoors.l0 k1 l1 t378 x6_1 t378 (t378.length : Int) (wrap64 (x14_1 + 1))))) else (none)) else (none)) = some r:=by first|(rw [hji10] at H;exact H)|(simp only [hji10] at H ⊢;exact H)
    replace H:=IC H;obtain ⟨c11,H⟩:=H;have c11b0:=DT c11;clear c11;replace H:=IC H;obtain ⟨c12,H⟩:=H;have c12b0:=DT c12;clear c12;replace H:=EA H;obtain ⟨t383,A13,H⟩:=H;by_cases c14 : t383 = true
    ·subst c14;replace H:=IP H;obtain ⟨y384,hy384⟩ : ∃ y_ : List Int,y_ = (([rd t378 x14_1,rd t378 (ji10)] : List Int)):=⟨_,rfl⟩;replace H : (if x6_1.length < 5864062014805 then (spec_opDoors.l0 k1 l1 t378 (x6_1 ++ [y384]) t378 (t378.length : Int) (wrap64 (x14_1 + 1))) else (none)) = some r:=HY H hy384;have Ny384:=AM hy384;clear hy384;replace H:=IC H;obtain ⟨c15,H⟩:=H;have LMc15:=AM c15;clear c15;obtain ⟨y387,hy387⟩ : ∃ y_ : List (List Int),y_ = (x6_1 ++ [y384]):=⟨_,rfl⟩;replace H : (spec_opDoors.l0 k1 l1 t378 y387 t378 (t378.length : Int) (wrap64 (x14_1 + 1))) = some r:=HY H hy387;have Ny387:=AM hy387;clear hy387;have H':=AM H;clear H;have p381 : 0 ≤ (x14_1 : Int):=OD AS;have q381 : x14_1 < (t378.length : Int):=OD AS;obtain ⟨ad381,e381,hx381_0⟩:=Kd.at_int (Kd.R_reads' HO_12.out).2.2 x14_1 p381 q381;cases e381;replace p381:=ET p381;replace q381:=ET q381;have p382 : 0 ≤ ((ji10) : Int):=OD AS;have q382 : (ji10) < (t378.length : Int):=OD AS;obtain ⟨ad382,e382,hx382_0⟩:=Kd.at_int (Kd.R_reads' HO_5.out).2.2 (ji10) p382 q382;obtain rfl : ad381 = ad382:=(by injection e382);replace p382:=ET p382;replace q382:=ET q382;go_wp2_with (first|((with_reducible refine gate_callee (f:=62) rfl ?_);refine goesL_ (some 30) rfl rfl Try.func62 (by kernel_rfl) rfl #[.slice A1 l1.length c1,.int .i64 (rd t378 x14_1),.int .i64 (rd t378 (ji10))] rfl (by (try simp only [List.map_toArray,List.map_cons,List.map_nil]);first|done|(simp only [hji10];rfl)|rfl|(simp only [List.length_drop,List.length_take];rfl)) ?_;(with_reducible refine (spec_opDoor.calls _ _ l1 (rd t378 x14_1) (rd t378 (ji10)) true _ (CW (Kd.C_below HR1.out HB.out)) HC1.out A13.out).mono ?_);rintro e w' ⟨rfl,⟨nd,rfl⟩⟩;refine ⟨_,rfl,?_⟩)|((with_reducible refine gate_dst (N:=34) rfl ?_);refine Kd.R_lit (Kd.int .i64) _ 3 ?hg (N:=34) ?hd (xs:=([rd t378 x14_1,rd t378 (ji10)] : List Int)) (inner:=[.int .i64 (rd t378 x14_1),.int .i64 (rd t378 (ji10))]) (ok:=fun _=>True) (okp:=fun _=>True) ?hr ?hp (fun _ hk=>hk) trivial (Below.refl _ _) (Nat.le_refl _) (by simp) ?_;(case hd=>rfl);(case hg=>rfl);(case hr=>exact GS);(case hp=>exact (Reps.one (show Kd.M (Kd.int .i64) _ _ _ (rd t378 x14_1) [.int .i64 (rd t378 x14_1)] from rfl) (Reps.one (show Kd.M (Kd.int .i64) _ _ _ (rd t378 (ji10)) [.int .i64 (rd t378 (ji10))] from rfl) (Reps.none _ _))));intro v385 w16 ho17 hb hg_ hnew_;clear hg_ hnew_;(first|rw [← Ny384.out] at ho17|(simp only [Int.reduceToNat] at ho17;rw [← Ny384.out] at ho17));replace HO_6:=SO HO_6 ho17 hb;have HO386:=AM (Kd.R_lower (Kd.R_new' (Kd.R_new' ho17 (Kd.R_lt (KR HO_5))) (Kd.R_lt (KR HO_12))) (BZ BB));replace HO_5:=RO HO_5 ho17 hb;replace HO_12:=RO HO_12 ho17 hb;replace HB:=HS hb;clear hb ho17;obtain ⟨Ao19,co19,eo19⟩:=Kd.R_slice HO386.out;subst eo19)|((with_reducible refine gate_builtin (b:=.append) (xs:=#[.tmp 31,.tmp 35]) rfl ?_);at_builtin;refine Kd.S_append (Kd.slice 3 (Kd.int .i64)) (w0:=w) w.heap.size rfl (.tmp 31) (.tmp 35) 31 24 (.slice none 0 0) 24 rfl Try.underlying31 info24 rfl (by decide) (by omega) u6 x6_1 y384 [.slice Ao19 y384.length co19] (fun k_=>some k_≠(.slice (some ad381) t378.length co5 : Value).ownBlock∧some k_≠(.slice (some ad381) t378.length co5 : Value).ownBlock) (fun k_=>some k_ = (.slice Ao19 y384.length co19 : Value).ownBlock) rfl rfl ?aP (fun k_ hk_=>((Kd.R_mono (ok':=fun k_=>((fun k_=>some k_≠(.slice (some ad381) t378.length co5 : Value).ownBlock∧some k_≠(.slice (some ad381) t378.length co5 : Value).ownBlock)) k_∧some k_≠(u6 : Value).ownBlock) (Kd.R_apart' (HO386.out) (Kd.S_typed HO_6.out) (by decide)) (fun k_ hk=>⟨⟨hk.1.1.2,hk.1.2⟩,hk.2⟩))).1 k_ hk_.symm) ?aF ?aO ?aB ?aS ?aL ?_;(case aP=>exact Kd.M_row (Kd.R_mono (Kd.R_tight rfl (Kd.R_mono (ok':=fun k_=>((fun k_=>some k_≠(.slice (some ad381) t378.length co5 : Value).ownBlock∧some k_≠(.slice (some ad381) t378.length co5 : Value).ownBlock)) k_∧some k_≠(u6 : Value).ownBlock) (Kd.R_apart' (HO386.out) (Kd.S_typed HO_6.out) (by decide)) (fun k_ hk=>⟨⟨hk.1.1.2,hk.1.2⟩,hk.2⟩))) (fun _ h_=>h_)));(case aB=>exact BB);(case aF=>exact (fun k_ hk=>⟨Kd.fresh' (Kd.R_lt (KR HO_5)) k_ hk,Kd.fresh' (Kd.R_lt (KR HO_12)) k_ hk⟩));(case aO=>exact (by (with_reducible repeat (first|apply Kd.S_alloc|apply Kd.S_drewN|apply Kd.S_drew));exact Kd.S_mono HO_6.out (fun k_ hk=>⟨⟨hk.1.1,hk.1.2⟩,fun e_=>hk.2 e_⟩)));(case aS=>exact (BZ BB));(case aL=>have:=LMc15.out;omega);intro v388 w18 ho hb hg hat;rw [← Ny387.out] at ho;replace HO_5:=AM (Kd.R_over' (KR HO_5) (Kd.S_typed (KS HO_6)) (by decide) hg);replace HO_12:=AM (Kd.R_over' (KR HO_12) (Kd.S_typed (KS HO_6)) (by decide) hg);replace HB:=AM hb;have HO389:=AM ho;clear HO_6 HO386;clear ho hb hg hat));go_roundg k1
     case measure=>have:=HK1.out;omega
     case rel=>exact ⟨(y387),(wrap64 (x14_1 + 1)),RF,H',⟨by have:=HK1.out;omega⟩,⟨by (with_reducible repeat (first|apply Kd.R_alloc|apply Kd.R_drewN|apply Kd.R_drew));exact Kd.R_mono HO_5.out (fun _ hk=>trivial)⟩,⟨KS HO389⟩,⟨by (with_reducible repeat (first|apply Kd.R_alloc|apply Kd.R_drewN|apply Kd.R_drew));exact Kd.R_mono HO_12.out (fun _ hk=>trivial)⟩,⟨BB⟩⟩
    ·replace c14:=NF c14;subst c14;replace H:=IN H;have H':=AM H;clear H;have p381 : 0 ≤ (x14_1 : Int):=OD AS;have q381 : x14_1 < (t378.length : Int):=OD AS;obtain ⟨ad381,e381,hx381_0⟩:=Kd.at_int (Kd.R_reads' HO_12.out).2.2 x14_1 p381 q381;cases e381;replace p381:=ET p381;replace q381:=ET q381;have p382 : 0 ≤ ((ji10) : Int):=OD AS;have q382 : (ji10) < (t378.length : Int):=OD AS;obtain ⟨ad382,e382,hx382_0⟩:=Kd.at_int (Kd.R_reads' HO_5.out).2.2 (ji10) p382 q382;obtain rfl : ad381 = ad382:=(by injection e382);replace p382:=ET p382;replace q382:=ET q382;go_wp2_with (first|((with_reducible refine gate_callee (f:=62) rfl ?_);refine goesL_ (some 30) rfl rfl Try.func62 (by kernel_rfl) rfl #[.slice A1 l1.length c1,.int .i64 (rd t378 x14_1),.int .i64 (rd t378 (ji10))] rfl (by (try simp only [List.map_toArray,List.map_cons,List.map_nil]);first|done|(simp only [hji10];rfl)|rfl|(simp only [List.length_drop,List.length_take];rfl)) ?_;(with_reducible refine (spec_opDoor.calls _ _ l1 (rd t378 x14_1) (rd t378 (ji10)) false _ (CW (Kd.C_below HR1.out HB.out)) HC1.out A13.out).mono ?_);rintro e w' ⟨rfl,⟨nd,rfl⟩⟩;refine ⟨_,rfl,?_⟩));go_roundg k1
     case measure=>have:=HK1.out;omega
     case rel=>exact ⟨(x6_1),(wrap64 (x14_1 + 1)),RF,H',⟨by have:=HK1.out;omega⟩,⟨KR HO_5⟩,⟨KS HO_6⟩,⟨KR HO_12⟩,⟨BB⟩⟩
   ·rw [if_neg c6] at H;have c6b0:=DF c6;clear c6;obtain rfl:=Option.some.inj H;go_wp2;go_ret;exact ⟨_,RE,by (with_reducible repeat (first|apply Kd.S_alloc|apply Kd.S_drewN|apply Kd.S_drew));exact Kd.S_mono HO_6.out (fun _ hk=>trivial),BB⟩

/-! ### spec_l1Same: function 45 -/
def spec_l1Same.l0 : Nat→List Int→List Int→Int→Int→Option (Bool)
 | 0,_,_,_,_=>none
 | k + 1,x0,x1,x12,x13=>if x13 < x12 then (if 0 ≤ x13 then (if x13 < (x0.length : Int) then (if x13 < (x1.length : Int) then (if (rd x0 x13) = (rd x1 x13) then (spec_l1Same.l0 k x0 x1 x12 (wrap64 (x13 + 1))) else (some false)) else (none)) else (none)) else (none)) else (some true)
def spec_l1Same.f (k : Nat) (l0 : List Int) (l1 : List Int) : Option (Bool):=if (l0.length : Int) = (l1.length : Int) then (spec_l1Same.l0 k l0 l1 (l0.length : Int) 0) else (some false)
theorem spec_l1Same.mono_l : ∀ k,(∀ y0 y1 y2 y3,LeO (spec_l1Same.l0 k y0 y1 y2 y3) (spec_l1Same.l0 (k + 1) y0 y1 y2 y3))
 | 0=>fun _ _ _ _ r h=>by simp [spec_l1Same.l0] at h
 | k + 1=>by
  have ih0:=spec_l1Same.mono_l k
  ·intro y0 y1 y2 y3
   unfold spec_l1Same.l0
   exact MO
theorem spec_l1Same.mono : ∀ a0 a1 k,LeO (spec_l1Same.f k a0 a1) (spec_l1Same.f (k + 1) a0 a1):=by
 intro a0 a1 k;have ih0:=spec_l1Same.mono_l k;unfold spec_l1Same.f
 exact MO
theorem spec_l1Same.calls (k : Nat) (A0 : Option Addr) (c0 : Nat) (l0 : List Int) (A1 : Option Addr) (c1 : Nat) (l1 : List Int) (r : Bool) (w : World) (hr0 : Kd.C (Kd.int .i64) w A0 l0.length l0) (hc0 : l0.length ≤ c0) (hr1 : Kd.C (Kd.int .i64) w A1 l1.length l1) (hc1 : l1.length ≤ c1) (h : spec_l1Same.f k l0 l1 = some r) :
  Calls Try.prog 45 #[.slice A0 l0.length c0,.slice A1 l1.length c1] w fun e w'=>e = .returned (.bool r)∧Drawn0 w w':=by
 have HR0:=AM hr0;have HC0:=AM hc0;clear hr0 hc0;have HR1:=AM hr1;have HC1:=AM hc1;clear hr1 hc1;have H : (if (l0.length : Int) = (l1.length : Int) then (spec_l1Same.l0 k l0 l1 (l0.length : Int) 0) else (some false)) = some r:=h;clear h;by_cases c3 : (l0.length : Int) = (l1.length : Int)
 ·rw [if_pos c3] at H;have c3b0:=QT c3;have c3b1:=bne_eq_false_iff_eq.mpr c3;have c3b2 : (l0.length == l1.length) = true:=by first|simpa using c3|(simp at c3 ⊢;omega)
  clear c3;have H':=AM H;clear H;go_enter Try.func45,Try.ntmps45;go_wp2;repeat (go_quiet (fail);try go_wp2)
  go_loopg [13] k (fun kq v13 w'=>∃ (x13_1 : Int),v13 = .int .i64 x13_1∧Aside0 (spec_l1Same.l0 kq l0 l1 (l0.length : Int) x13_1 = some r)∧Aside0 (kq ≤ k)∧Drawn0 w w')
  case atStart=>exact ⟨(0),RF,H',⟨Nat.le_refl _⟩,by repeat (first|exact Drawn0.refl _|apply Drawn0.step)⟩
  case round =>
   clear H';try clear c1
   try clear p2
   try clear c3
   try clear c3b0
   try clear c3b1
   try clear c3b2
   obtain ⟨x13_1,rfl,HA,HK1,⟨m1,rfl⟩⟩:=hrel;cases gk with
   | zero=>exact absurd HA.out (by simp [spec_l1Same.l0])
   | succ k1 =>
    have H:=HA.out;clear HA;simp only [spec_l1Same.l0] at H;by_cases c4 : x13_1 < (l0.length : Int)
    ·rw [if_pos c4] at H;have c4b0:=DT c4;clear c4;replace H:=IC H;obtain ⟨c5,H⟩:=H;have c5b0:=DT c5;clear c5;replace H:=IC H;obtain ⟨c6,H⟩:=H;have c6b0:=DT c6;clear c6;replace H:=IC H;obtain ⟨c7,H⟩:=H;have c7b0:=DT c7;clear c7;by_cases c8 : (rd l0 x13_1) = (rd l1 x13_1)
     ·rw [if_pos c8] at H;have c8b0:=QT c8;have c8b1:=bne_eq_false_iff_eq.mpr c8;clear c8;have H':=AM H;clear H;have p390 : 0 ≤ (x13_1 : Int):=OD AS;have q390 : x13_1 < (l0.length : Int):=OD AS;obtain ⟨ad390,e390,hx390_0⟩:=Kd.at_int HR0.out x13_1 p390 q390;cases e390;replace p390:=ET p390;replace q390:=ET q390;have p391 : 0 ≤ (x13_1 : Int):=OD AS;have q391 : x13_1 < (l1.length : Int):=OD AS;obtain ⟨ad391,e391,hx391_0⟩:=Kd.at_int HR1.out x13_1 p391 q391;cases e391;replace p391:=ET p391;replace q391:=ET q391;go_wp2;repeat (go_quiet (fail);try go_wp2)
      go_roundg k1
      case measure=>have:=HK1.out;omega
      case rel=>exact ⟨(wrap64 (x13_1 + 1)),RF,H',⟨by have:=HK1.out;omega⟩,by repeat (first|exact Drawn0.refl _|apply Drawn0.step)⟩
     ·rw [if_neg c8] at H;have c8b0:=beq_eq_false_iff_ne.mpr c8;have c8b1:=bne_iff_ne.mpr c8;obtain rfl:=Option.some.inj H;have p390 : 0 ≤ (x13_1 : Int):=OD AS;have q390 : x13_1 < (l0.length : Int):=OD AS;obtain ⟨ad390,e390,hx390_0⟩:=Kd.at_int HR0.out x13_1 p390 q390;cases e390;replace p390:=ET p390;replace q390:=ET q390;have p391 : 0 ≤ (x13_1 : Int):=OD AS;have q391 : x13_1 < (l1.length : Int):=OD AS;obtain ⟨ad391,e391,hx391_0⟩:=Kd.at_int HR1.out x13_1 p391 q391;cases e391;replace p391:=ET p391;replace q391:=ET q391;go_wp2;repeat (go_quiet (fail);try go_wp2)
      go_ret;exact ⟨RF,DR⟩
    ·rw [if_neg c4] at H;have c4b0:=DF c4;clear c4;obtain rfl:=Option.some.inj H;go_wp2;repeat (go_quiet (fail);try go_wp2)
     go_ret;exact ⟨RF,DR⟩
 ·rw [if_neg c3] at H;have c3b0:=beq_eq_false_iff_ne.mpr c3;have c3b1:=bne_iff_ne.mpr c3;have c3b2 : (l0.length == l1.length) = false:=by first|simpa using c3|(simp at c3 ⊢;omega)
  obtain rfl:=Option.some.inj H;go_enter Try.func45,Try.ntmps45;go_wp2;repeat (go_quiet (fail);try go_wp2)
  go_ret;exact ⟨RF,DR⟩

/-! ### spec_opCells: function 63 -/
def spec_opCells.l0 : Nat→Int→List (List Int)→Int→Int→Option ((List (List Int)))
 | 0,_,_,_,_=>none
 | k + 1,x0,x3,x4,x5=>(spec_opCount.f x0).bind fun t392=>(if x5 < t392 then ((spec_opAt.f x0 x5).bind fun bt393=>(if bt393.1 < x0 then (if bt393.2 < x0 then ((some (([(([x5,wrap64 (x5 + 1),wrap64 ((wrap64 (x5 + x4)) + 1)] : List Int)),(([x5,wrap64 (x5 + x4),wrap64 ((wrap64 (x5 + x4)) + 1)] : List Int))] : List (List Int)) : List (List Int))).bind fun y401=>(if x3.length + y401.length < 5864062014805 then (spec_opCells.l0 k x0 (x3 ++ y401) x4 (wrap64 (x5 + 1))) else (none))) else (spec_opCells.l0 k x0 x3 x4 (wrap64 (x5 + 1)))) else (spec_opCells.l0 k x0 x3 x4 (wrap64 (x5 + 1))))) else (some x3))
def spec_opCells.f (k : Nat) (a0 : Int) : Option ((List (List Int))):=spec_opCells.l0 k a0 ([] : List (List Int)) (wrap64 ((wrap64 (2 * a0)) + 1)) 0
theorem spec_opCells.mono_l : ∀ k,(∀ y0 y1 y2 y3,LeO (spec_opCells.l0 k y0 y1 y2 y3) (spec_opCells.l0 (k + 1) y0 y1 y2 y3))
 | 0=>fun _ _ _ _ r h=>by simp [spec_opCells.l0] at h
 | k + 1=>by
  have ih0:=spec_opCells.mono_l k
  ·intro y0 y1 y2 y3
   unfold spec_opCells.l0
   exact MO
theorem spec_opCells.mono : ∀ a0 k,LeO (spec_opCells.f k a0) (spec_opCells.f (k + 1) a0):=by
 intro a0 k;have ih0:=spec_opCells.mono_l k;unfold spec_opCells.f
 exact MO
theorem spec_opCells.calls (k : Nat) (a0 : Int) (r : List (List Int)) (w : World) (h : spec_opCells.f k a0 = some r) :
  Calls Try.prog 63 #[.int .i64 a0] w fun e w'=>∃ v0_ : Value,e = .returned (v0_)∧Kd.N (Kd.slice 3 (Kd.int .i64)) 24 w' w.heap.size (fun k_=>(w.heap.size ≤ k_)) v0_ r∧Below w.heap.size w w':=by
 have HB:=HRf w;have H : (spec_opCells.l0 k a0 ([] : List (List Int)) (wrap64 ((wrap64 (2 * a0)) + 1)) 0) = some r:=h;clear h;have H':=AM H;clear H;go_enter Try.func63,Try.ntmps63;go_wp2;go_loopg [3,5] k (fun kq v3 v5 w'=>∃ (x3_1 : List (List Int)) (x5_1 : Int),v5 = .int .i64 x5_1∧Aside0 (spec_opCells.l0 kq a0 x3_1 (wrap64 ((wrap64 (2 * a0)) + 1)) x5_1 = some r)∧Aside0 (kq ≤ k)∧Aside0 (Kd.N (Kd.slice 3 (Kd.int .i64)) 24 w' w.heap.size (fun k_=>(w.heap.size ≤ k_)) v3 x3_1)∧Aside0 (Below w.heap.size w w'))
 case atStart=>exact ⟨(([] : List (List Int))),(0),RF,H',⟨Nat.le_refl _⟩,⟨by first|exact Kd.S_nil _ _ _ _ _|exact Kd.N_nil _ _ _ _ _|exact Kd.V_nil _ _ _ _ _|exact Kd.Q_nil _ _ _ _ _|exact Kd.R_nil _ _ _ _ _⟩,⟨BB⟩⟩
 case round =>
  clear H';obtain ⟨x3_1,x5_1,rfl,HA,HK1,HO_3,HB⟩:=hrel;cases gk with
  | zero=>exact absurd HA.out (by simp [spec_opCells.l0])
  | succ k1 =>
   have H:=HA.out;clear HA;simp only [spec_opCells.l0] at H;replace H:=EA H;obtain ⟨t392,A2,H⟩:=H;by_cases c3 : x5_1 < t392
   ·rw [if_pos c3] at H;have c3b0:=DT c3;clear c3;replace H:=EA H;obtain ⟨⟨t393,t394⟩,A4,H⟩:=H;try dsimp only at H
    by_cases c5 : t393 < a0
    ·rw [if_pos c5] at H;have c5b0:=DT c5;clear c5;by_cases c6 : t394 < a0
     ·rw [if_pos c6] at H;have c6b0:=DT c6;clear c6;obtain ⟨y395,hy395⟩ : ∃ y_ : List Int,y_ = (([x5_1,wrap64 (x5_1 + 1),wrap64 ((wrap64 (x5_1 + (wrap64 ((wrap64 (2 * a0)) + 1)))) + 1)] : List Int)):=⟨_,rfl⟩;replace H : ((some (([y395,(([x5_1,wrap64 (x5_1 + (wrap64 ((wrap64 (2 * a0)) + 1))),wrap64 ((wrap64 (x5_1 + (wrap64 ((wrap64 (2 * a0)) + 1)))) + 1)] : List Int))] : List (List Int)) : List (List Int))).bind fun y401=>(if x3_1.length + y401.length < 5864062014805 then (spec_opCells.l0 k1 a0 (x3_1 ++ y401) (wrap64 ((wrap64 (2 * a0)) + 1)) (wrap64 (x5_1 + 1))) else (none))) = some r:=HY H hy395;have Ny395:=AM hy395;clear hy395;obtain ⟨y398,hy398⟩ : ∃ y_ : List Int,y_ = (([x5_1,wrap64 (x5_1 + (wrap64 ((wrap64 (2 * a0)) + 1))),wrap64 ((wrap64 (x5_1 + (wrap64 ((wrap64 (2 * a0)) + 1)))) + 1)] : List Int)):=⟨_,rfl⟩;replace H : ((some (([y395,y398] : List (List Int)) : List (List Int))).bind fun y401=>(if x3_1.length + y401.length < 5864062014805 then (spec_opCells.l0 k1 a0 (x3_1 ++ y401) (wrap64 ((wrap64 (2 * a0)) + 1)) (wrap64 (x5_1 + 1))) else (none))) = some r:=HY H hy398;have Ny398:=AM hy398;clear hy398;obtain ⟨y401,hy401⟩ : ∃ y_ : List (List Int),y_ = (([y395,y398] : List (List Int))):=⟨_,rfl⟩;replace H : (if x3_1.length + y401.length < 5864062014805 then (spec_opCells.l0 k1 a0 (x3_1 ++ y401) (wrap64 ((wrap64 (2 * a0)) + 1)) (wrap64 (x5_1 + 1))) else (none)) = some r:=HY H hy401;have Ny401:=AM hy401;clear hy401;replace H:=IC H;obtain ⟨c7,H⟩:=H;have LMc7:=AM c7;clear c7;obtain ⟨y404,hy404⟩ : ∃ y_ : List (List Int),y_ = (x3_1 ++ y401):=⟨_,rfl⟩;replace H : (spec_opCells.l0 k1 a0 y404 (wrap64 ((wrap64 (2 * a0)) + 1)) (wrap64 (x5_1 + 1))) = some r:=HY H hy404;have Ny404:=AM hy404;clear hy404;have H':=AM H;clear H;go_wp2_with (first|(refine GC 58 ?_;refine GM (some 13) Try.func58 (spec_opCount.calls a0 t392 _ A2.out) ?_;rintro e w' ⟨rfl,⟨nd,rfl⟩⟩;refine ⟨_,rfl,?_⟩)|(refine GC 68 ?_;refine GM (some 20) Try.func68 (spec_opAt.calls a0 x5_1 t393 t394 _ A4.out) ?_;rintro e w' ⟨rfl,⟨nd,rfl⟩⟩;refine ⟨_,rfl,?_⟩)|((with_reducible refine gate_dst (N:=39) rfl ?_);refine Kd.R_lit (Kd.int .i64) _ 3 ?hg (N:=39) ?hd (xs:=([x5_1,wrap64 (x5_1 + 1),wrap64 ((wrap64 (x5_1 + (wrap64 ((wrap64 (2 * a0)) + 1)))) + 1)] : List Int)) (inner:=[.int .i64 x5_1,.int .i64 (wrap64 (x5_1 + 1)),.int .i64 (wrap64 ((wrap64 (x5_1 + (wrap64 ((wrap64 (2 * a0)) + 1)))) + 1))]) (ok:=fun _=>True) (okp:=fun _=>True) ?hr ?hp (fun _ hk=>hk) trivial (Below.refl _ _) (Nat.le_refl _) (by simp) ?_;(case hd=>rfl);(case hg=>rfl);(case hr=>exact GS);(case hp=>exact (Reps.one (show Kd.M (Kd.int .i64) _ _ _ x5_1 [.int .i64 x5_1] from rfl) (Reps.one (show Kd.M (Kd.int .i64) _ _ _ (wrap64 (x5_1 + 1)) [.int .i64 (wrap64 (x5_1 + 1))] from rfl) (Reps.one (show Kd.M (Kd.int .i64) _ _ _ (wrap64 ((wrap64 (x5_1 + (wrap64 ((wrap64 (2 * a0)) + 1)))) + 1)) [.int .i64 (wrap64 ((wrap64 (x5_1 + (wrap64 ((wrap64 (2 * a0)) + 1)))) + 1))] from rfl) (Reps.none _ _)))));intro v396 w8 ho9 hb hg_ hnew_;clear hg_ hnew_;(first|rw [← Ny395.out] at ho9|(simp only [Int.reduceToNat] at ho9;rw [← Ny395.out] at ho9));replace HO_3:=AM (Kd.N_elder' (KN HO_3) (Kd.R_base ho9) hb);have HO397:=AM (Kd.R_lower (Kd.R_newM (M:=fun k_=>(w.heap.size ≤ k_)) ho9 (BZ BB) (fun k_ h_=>h_)) (BZ BB));replace HB:=HS hb;clear hb ho9)|((with_reducible refine gate_dst (N:=48) rfl ?_);refine Kd.R_lit (Kd.int .i64) _ 3 ?hg (N:=48) ?hd (xs:=([x5_1,wrap64 (x5_1 + (wrap64 ((wrap64 (2 * a0)) + 1))),wrap64 ((wrap64 (x5_1 + (wrap64 ((wrap64 (2 * a0)) + 1)))) + 1)] : List Int)) (inner:=[.int .i64 x5_1,.int .i64 (wrap64 (x5_1 + (wrap64 ((wrap64 (2 * a0)) + 1)))),.int .i64 (wrap64 ((wrap64 (x5_1 + (wrap64 ((wrap64 (2 * a0)) + 1)))) + 1))]) (ok:=fun _=>True) (okp:=fun _=>True) ?hr ?hp (fun _ hk=>hk) trivial (Below.refl _ _) (Nat.le_refl _) (by simp) ?_;(case hd=>rfl);(case hg=>rfl);(case hr=>exact GS);(case hp=>exact (Reps.one (show Kd.M (Kd.int .i64) _ _ _ x5_1 [.int .i64 x5_1] from rfl) (Reps.one (show Kd.M (Kd.int .i64) _ _ _ (wrap64 (x5_1 + (wrap64 ((wrap64 (2 * a0)) + 1)))) [.int .i64 (wrap64 (x5_1 + (wrap64 ((wrap64 (2 * a0)) + 1))))] from rfl) (Reps.one (show Kd.M (Kd.int .i64) _ _ _ (wrap64 ((wrap64 (x5_1 + (wrap64 ((wrap64 (2 * a0)) + 1)))) + 1)) [.int .i64 (wrap64 ((wrap64 (x5_1 + (wrap64 ((wrap64 (2 * a0)) + 1)))) + 1))] from rfl) (Reps.none _ _)))));intro v399 w10 ho11 hb hg_ hnew_;clear hg_ hnew_;(first|rw [← Ny398.out] at ho11|(simp only [Int.reduceToNat] at ho11;rw [← Ny398.out] at ho11));replace HO_3:=AM (Kd.N_elder' (KN HO_3) (Kd.R_base ho11) hb);have HO400:=AM (Kd.R_lower (Kd.R_new' (Kd.R_newM (M:=fun k_=>(w.heap.size ≤ k_)) ho11 (BZ BB) (fun k_ h_=>h_)) (Kd.R_lt (KR HO397))) (BZ BB));replace HO397:=RO HO397 ho11 hb;replace HB:=HS hb;clear hb ho11;obtain ⟨Ao12,co12,eo12⟩:=Kd.R_slice HO397.out;subst eo12;obtain ⟨Ao13,co13,eo13⟩:=Kd.R_slice HO400.out;subst eo13)|((with_reducible refine gate_dst (N:=49) rfl ?_);refine Kd.N_lit (Kd.slice 3 (Kd.int .i64)) _ 24 ?hg (N':=49) ?hd (xs:=([y395,y398] : List (List Int))) (inner:=[.slice Ao12 y395.length co12,.slice Ao13 y398.length co13]) (ok:=(fun k_=>(w.heap.size ≤ k_)∧some k_≠(u3 : Value).ownBlock)) (okp:=(fun k_=>(w.heap.size ≤ k_)∧some k_≠(u3 : Value).ownBlock)) ?hr ?hp (fun _ hk=>hk) ((show ∀ k_,w10.heap.size ≤ k_→(fun k_=>(w.heap.size ≤ k_)∧some k_≠(u3 : Value).ownBlock) k_ from fun k_ hk=>⟨(Nat.le_trans (BZ BB) hk),Kd.fresh' (Kd.N_lt (KN HO_3)) k_ hk⟩) _ (Nat.le_refl _)) (Below.refl _ _) (Nat.le_refl _) (by simp) ?_;(case hd=>rfl);(case hg=>rfl);(case hr=>exact GS);(case hp=>exact (Reps.one (show Kd.FK (Kd.slice 3 (Kd.int .i64)) _ _ y395 [.slice Ao12 y395.length co12] from (Kd.FK_slice_mk (Kd.R_reads' (Kd.R_mono (ok':=(fun k_=>(w.heap.size ≤ k_)∧some k_≠(u3 : Value).ownBlock)) (Kd.R_apart' (HO397.out) (Kd.N_typed HO_3.out) (by decide)) (fun k_ hk=>⟨hk.1.1.1,hk.2⟩))).2.1 (Kd.R_F (Kd.R_mono (ok':=(fun k_=>(w.heap.size ≤ k_)∧some k_≠(u3 : Value).ownBlock)) (Kd.R_apart' (HO397.out) (Kd.N_typed HO_3.out) (by decide)) (fun k_ hk=>⟨hk.1.1.1,hk.2⟩))))) (Reps.one (show Kd.FK (Kd.slice 3 (Kd.int .i64)) _ _ y398 [.slice Ao13 y398.length co13] from (Kd.FK_slice_mk (Kd.R_reads' (Kd.R_mono (ok':=(fun k_=>(w.heap.size ≤ k_)∧some k_≠(u3 : Value).ownBlock)) (Kd.R_apart' (HO400.out) (Kd.N_typed HO_3.out) (by decide)) (fun k_ hk=>⟨hk.1.1.1,hk.2⟩))).2.1 (Kd.R_F (Kd.R_mono (ok':=(fun k_=>(w.heap.size ≤ k_)∧some k_≠(u3 : Value).ownBlock)) (Kd.R_apart' (HO400.out) (Kd.N_typed HO_3.out) (by decide)) (fun k_ hk=>⟨hk.1.1.1,hk.2⟩))))) (Reps.none _ _))));intro v402 w14 ho15 hb hg_ hnew_;clear hg_ hnew_;(first|rw [← Ny401.out] at ho15|(simp only [Int.reduceToNat] at ho15;rw [← Ny401.out] at ho15));replace HO_3:=AM (Kd.N_elder' (KN HO_3) (Kd.N_base ho15) hb);have HO403:=AM (Kd.N_lower ho15 (BZ BB));replace HB:=HS hb;clear HO397 HO400;clear hb ho15;obtain ⟨Ao17,co17,eo17⟩:=Kd.N_slice HO403.out;subst eo17)|((with_reducible refine gate_builtin (b:=.append) (xs:=#[.tmp 31,.tmp 49]) rfl ?_);at_builtin;refine Kd.N_append_rows (Kd.slice 3 (Kd.int .i64)) (w0:=w) w.heap.size rfl (.tmp 31) (.tmp 49) 31 24 (.slice none 0 0) 24 rfl Try.underlying31 info24 rfl (by decide) (by omega) u3 x3_1 y401 _ _ _ (fun k_=>(w.heap.size ≤ k_)) (fun k_=>((fun k_=>(w.heap.size ≤ k_))) k_∧some k_≠(u3 : Value).ownBlock) rfl rfl ?aO ?aR (fun _ hk=>hk) ?aF ?aB ?aS ?aL ?_;(case aR=>exact (by skip;exact Kd.N_F (Kd.N_mono (ok':=(fun k_=>((fun k_=>(w.heap.size ≤ k_))) k_∧some k_≠(u3 : Value).ownBlock)) (HO403.out) (fun k_ hk=>⟨hk.1,hk.2⟩))));(case aB=>exact BB);(case aF=>exact (fun k_ hk=>(Nat.le_trans (BZ BB) hk)));(case aO=>exact (by (with_reducible repeat (first|apply Kd.N_alloc|apply Kd.N_drewN|apply Kd.N_drew));exact Kd.N_mono HO_3.out (fun _ hk=>hk.1.1.1)));(case aS=>exact (BZ BB));(case aL=>have:=LMc7.out;omega);intro v405 w16 ho hb hg hat;rw [← Ny404.out] at ho;replace HO403:=AM (Kd.N_afterv (ok:=(fun k_=>(w.heap.size ≤ k_))) (KN HO403) hg hat);replace HB:=AM hb;have HO406:=AM ho;clear HO_3;clear ho hb hg hat));go_roundg k1
      case measure=>have:=HK1.out;omega
      case rel=>exact ⟨(y404),(wrap64 (x5_1 + 1)),RF,H',⟨by have:=HK1.out;omega⟩,⟨KN HO406⟩,⟨BB⟩⟩
     ·rw [if_neg c6] at H;have c6b0:=DF c6;clear c6;have H':=AM H;clear H;go_wp2_with (first|(refine GC 58 ?_;refine GM (some 13) Try.func58 (spec_opCount.calls a0 t392 _ A2.out) ?_;rintro e w' ⟨rfl,⟨nd,rfl⟩⟩;refine ⟨_,rfl,?_⟩)|(refine GC 68 ?_;refine GM (some 20) Try.func68 (spec_opAt.calls a0 x5_1 t393 t394 _ A4.out) ?_;rintro e w' ⟨rfl,⟨nd,rfl⟩⟩;refine ⟨_,rfl,?_⟩));go_roundg k1
      case measure=>have:=HK1.out;omega
      case rel=>exact ⟨(x3_1),(wrap64 (x5_1 + 1)),RF,H',⟨by have:=HK1.out;omega⟩,⟨KN HO_3⟩,⟨BB⟩⟩
    ·rw [if_neg c5] at H;have c5b0:=DF c5;clear c5;have H':=AM H;clear H;go_wp2_with (first|(refine GC 58 ?_;refine GM (some 13) Try.func58 (spec_opCount.calls a0 t392 _ A2.out) ?_;rintro e w' ⟨rfl,⟨nd,rfl⟩⟩;refine ⟨_,rfl,?_⟩)|(refine GC 68 ?_;refine GM (some 20) Try.func68 (spec_opAt.calls a0 x5_1 t393 t394 _ A4.out) ?_;rintro e w' ⟨rfl,⟨nd,rfl⟩⟩;refine ⟨_,rfl,?_⟩));go_roundg k1
     case measure=>have:=HK1.out;omega
     case rel=>exact ⟨(x3_1),(wrap64 (x5_1 + 1)),RF,H',⟨by have:=HK1.out;omega⟩,⟨KN HO_3⟩,⟨BB⟩⟩
   ·rw [if_neg c3] at H;have c3b0:=DF c3;clear c3;obtain rfl:=Option.some.inj H;go_wp2_with (first|(refine GC 58 ?_;refine GM (some 13) Try.func58 (spec_opCount.calls a0 t392 _ A2.out) ?_;rintro e w' ⟨rfl,⟨nd,rfl⟩⟩;refine ⟨_,rfl,?_⟩));go_ret;exact ⟨_,RE,KN HO_3,BB⟩

/-! ### spec_l1Has: function 78 -/
def spec_l1Has.l0 : Nat→Int→List Int→Int→Int→Option (Bool)
 | 0,_,_,_,_=>none
 | k + 1,x1,x7,x8,x9=>if x9 < x8 then (if 0 ≤ x9 then (if x9 < (x7.length : Int) then (if (rd x7 x9) = x1 then (some true) else (spec_l1Has.l0 k x1 x7 x8 (wrap64 (x9 + 1)))) else (none)) else (none)) else (some false)
def spec_l1Has.f (k : Nat) (l0 : List Int) (a1 : Int) : Option (Bool):=spec_l1Has.l0 k a1 l0 (l0.length : Int) 0
theorem spec_l1Has.mono_l : ∀ k,(∀ y0 y1 y2 y3,LeO (spec_l1Has.l0 k y0 y1 y2 y3) (spec_l1Has.l0 (k + 1) y0 y1 y2 y3))
 | 0=>fun _ _ _ _ r h=>by simp [spec_l1Has.l0] at h
 | k + 1=>by
  have ih0:=spec_l1Has.mono_l k
  ·intro y0 y1 y2 y3
   unfold spec_l1Has.l0
   exact MO
theorem spec_l1Has.mono : ∀ a0 a1 k,LeO (spec_l1Has.f k a0 a1) (spec_l1Has.f (k + 1) a0 a1):=by
 intro a0 a1 k;have ih0:=spec_l1Has.mono_l k;unfold spec_l1Has.f
 exact MO
theorem spec_l1Has.calls (k : Nat) (A0 : Option Addr) (c0 : Nat) (l0 : List Int) (a1 : Int) (r : Bool) (w : World) (hr0 : Kd.C (Kd.int .i64) w A0 l0.length l0) (hc0 : l0.length ≤ c0) (h : spec_l1Has.f k l0 a1 = some r) :
  Calls Try.prog 78 #[.slice A0 l0.length c0,.int .i64 a1] w fun e w'=>e = .returned (.bool r)∧Drawn0 w w':=by
 have HR0:=AM hr0;have HC0:=AM hc0;clear hr0 hc0;have H : (spec_l1Has.l0 k a1 l0 (l0.length : Int) 0) = some r:=h;clear h;have H':=AM H;clear H;go_enter Try.func78,Try.ntmps78;go_wp2;go_loopg [9] k (fun kq v9 w'=>∃ (x9_1 : Int),v9 = .int .i64 x9_1∧Aside0 (spec_l1Has.l0 kq a1 l0 (l0.length : Int) x9_1 = some r)∧Aside0 (kq ≤ k)∧Drawn0 w w')
 case atStart=>exact ⟨(0),RF,H',⟨Nat.le_refl _⟩,by repeat (first|exact Drawn0.refl _|apply Drawn0.step)⟩
 case round =>
  clear H';try clear p2
  obtain ⟨x9_1,rfl,HA,HK1,⟨m1,rfl⟩⟩:=hrel;cases gk with
  | zero=>exact absurd HA.out (by simp [spec_l1Has.l0])
  | succ k1 =>
   have H:=HA.out;clear HA;simp only [spec_l1Has.l0] at H;by_cases c3 : x9_1 < (l0.length : Int)
   ·rw [if_pos c3] at H;have c3b0:=DT c3;clear c3;replace H:=IC H;obtain ⟨c4,H⟩:=H;have c4b0:=DT c4;clear c4;replace H:=IC H;obtain ⟨c5,H⟩:=H;have c5b0:=DT c5;clear c5;by_cases c6 : (rd l0 x9_1) = a1
    ·rw [if_pos c6] at H;have c6b0:=QT c6;have c6b1:=bne_eq_false_iff_eq.mpr c6;clear c6;obtain rfl:=Option.some.inj H;have p407 : 0 ≤ (x9_1 : Int):=OD AS;have q407 : x9_1 < (l0.length : Int):=OD AS;obtain ⟨ad407,e407,hx407_0⟩:=Kd.at_int HR0.out x9_1 p407 q407;cases e407;replace p407:=ET p407;replace q407:=ET q407;go_wp2;go_ret;exact ⟨RF,DR⟩
    ·rw [if_neg c6] at H;have c6b0:=beq_eq_false_iff_ne.mpr c6;have c6b1:=bne_iff_ne.mpr c6;have H':=AM H;clear H;have p407 : 0 ≤ (x9_1 : Int):=OD AS;have q407 : x9_1 < (l0.length : Int):=OD AS;obtain ⟨ad407,e407,hx407_0⟩:=Kd.at_int HR0.out x9_1 p407 q407;cases e407;replace p407:=ET p407;replace q407:=ET q407;go_wp2;go_roundg k1
     case measure=>have:=HK1.out;omega
     case rel=>exact ⟨(wrap64 (x9_1 + 1)),RF,H',⟨by have:=HK1.out;omega⟩,by repeat (first|exact Drawn0.refl _|apply Drawn0.step)⟩
   ·rw [if_neg c3] at H;have c3b0:=DF c3;clear c3;obtain rfl:=Option.some.inj H;go_wp2;go_ret;exact ⟨RF,DR⟩

/-! ### spec_meWith: function 76 -/
def spec_meWith.l0 : Nat→Int→Int→List Int→List (List Int)→Int→Int→Option (List Int)
 | 0,_,_,_,_,_,_=>none
 | k + 1,x1,x2,x7,x10,x11,x12=>if x12 < x11 then (if 0 ≤ x12 then (if x12 < (x10.length : Int) then ((spec_l1Has.f k (rd_L2 x10 x12) x1).bind fun t409=>(if t409 = true then ((spec_l1Has.f k (rd_L2 x10 x12) x2).bind fun t410=>(if t410 = true then (if x7.length < 17592186044416 then (spec_meWith.l0 k x1 x2 (x7 ++ [x12]) x10 x11 (wrap64 (x12 + 1))) else (none)) else (spec_meWith.l0 k x1 x2 x7 x10 x11 (wrap64 (x12 + 1))))) else (spec_meWith.l0 k x1 x2 x7 x10 x11 (wrap64 (x12 + 1))))) else (none)) else (none)) else (some x7)
def spec_meWith.f (k : Nat) (l0 : List (List Int)) (a1 : Int) (a2 : Int) : Option (List Int):=spec_meWith.l0 k a1 a2 ([] : List Int) l0 (l0.length : Int) 0
theorem spec_meWith.mono_l : ∀ k,(∀ y0 y1 y2 y3 y4 y5,LeO (spec_meWith.l0 k y0 y1 y2 y3 y4 y5) (spec_meWith.l0 (k + 1) y0 y1 y2 y3 y4 y5))
 | 0=>fun _ _ _ _ _ _ r h=>by simp [spec_meWith.l0] at h
 | k + 1=>by
  have ih0:=spec_meWith.mono_l k
  ·intro y0 y1 y2 y3 y4 y5
   unfold spec_meWith.l0
   have m0:=@spec_l1Has.mono
   exact MO
theorem spec_meWith.mono : ∀ a0 a1 a2 k,LeO (spec_meWith.f k a0 a1 a2) (spec_meWith.f (k + 1) a0 a1 a2):=by
 intro a0 a1 a2 k;have ih0:=spec_meWith.mono_l k;unfold spec_meWith.f
 have m0:=@spec_l1Has.mono
 exact MO
theorem spec_meWith.calls (k : Nat) (A0 : Option Addr) (c0 : Nat) (l0 : List (List Int)) (a1 : Int) (a2 : Int) (r : List Int) (w : World) (hr0 : Kd.C (Kd.slice 3 (Kd.int .i64)) w A0 l0.length l0) (hc0 : l0.length ≤ c0) (h : spec_meWith.f k l0 a1 a2 = some r) :
  Calls Try.prog 76 #[.slice A0 l0.length c0,.int .i64 a1,.int .i64 a2] w fun e w'=>∃ v0_ : Value,e = .returned (v0_)∧Kd.R (Kd.int .i64) 3 w' w.heap.size (fun _=>True) v0_ r∧Below w.heap.size w w':=by
 have HR0:=AM hr0;have HC0:=AM hc0;clear hr0 hc0;have HB:=HRf w;have H : (spec_meWith.l0 k a1 a2 ([] : List Int) l0 (l0.length : Int) 0) = some r:=h;clear h;have H':=AM H;clear H;go_enter Try.func76,Try.ntmps76;go_wp2;go_loopg [7,12] k (fun kq v7 v12 w'=>∃ (x7_1 : List Int) (x12_1 : Int),v12 = .int .i64 x12_1∧Aside0 (spec_meWith.l0 kq a1 a2 x7_1 l0 (l0.length : Int) x12_1 = some r)∧Aside0 (kq ≤ k)∧Aside0 (Kd.R (Kd.int .i64) 3 w' w.heap.size (fun _=>True) v7 x7_1)∧Aside0 (Below w.heap.size w w'))
 case atStart=>exact ⟨(([] : List Int)),(0),RF,H',⟨Nat.le_refl _⟩,⟨by first|exact Kd.R_nil _ _ _ _ _|exact Kd.N_nil _ _ _ _ _|exact Kd.V_nil _ _ _ _ _|exact Kd.Q_nil _ _ _ _ _|exact Kd.S_nil _ _ _ _ _⟩,⟨BB⟩⟩
 case round =>
  clear H';try clear p2
  obtain ⟨x7_1,x12_1,rfl,HA,HK1,HO_7,HB⟩:=hrel;cases gk with
  | zero=>exact absurd HA.out (by simp [spec_meWith.l0])
  | succ k1 =>
   have H:=HA.out;clear HA;simp only [spec_meWith.l0] at H;by_cases c4 : x12_1 < (l0.length : Int)
   ·rw [if_pos c4] at H;have c4b0:=DT c4;clear c4;replace H:=IC H;obtain ⟨c5,H⟩:=H;have c5b0:=DT c5;clear c5;replace H:=IC H;obtain ⟨c6,H⟩:=H;have c6b0:=DT c6;clear c6;replace H:=EA H;obtain ⟨t409,A7,H⟩:=H;by_cases c8 : t409 = true
    ·subst c8;replace H:=IP H;replace H:=EA H;obtain ⟨t410,A9,H⟩:=H;by_cases c10 : t410 = true
     ·subst c10;replace H:=IP H;replace H:=IC H;obtain ⟨c11,H⟩:=H;have LMc11:=AM c11;clear c11;obtain ⟨y411,hy411⟩ : ∃ y_ : List Int,y_ = (x7_1 ++ [x12_1]):=⟨_,rfl⟩;replace H : (spec_meWith.l0 k1 a1 a2 y411 l0 (l0.length : Int) (wrap64 (x12_1 + 1))) = some r:=HY H hy411;have Ny411:=AM hy411;clear hy411;have H':=AM H;clear H;have p408 : 0 ≤ (x12_1 : Int):=OD AS;have q408 : x12_1 < (l0.length : Int):=OD AS;obtain ⟨ad408,A408_0,c408_0,e408,hx408_0,hl408_0,hi408_0⟩:=at_L2 HR0.out x12_1 p408 q408;cases e408;try (replace hx408_0:=LC hx408_0)
      have HR408_0:=AM hi408_0;have HC408_0:=AM hl408_0;clear hi408_0 hl408_0;replace p408:=ET p408;replace q408:=ET q408;go_wp2_with (first|(refine GC 78 ?_;refine GM (some 19) Try.func78 (spec_l1Has.calls k1 _ _ (rd_L2 l0 x12_1) a1 true _ ?side1 ?side2 A7.out) ?_;(case side1=>exact CW (Kd.C_below HR408_0.out HB.out));(case side2=>exact HC408_0.out);rintro e w' ⟨rfl,⟨nd,rfl⟩⟩;refine ⟨_,rfl,?_⟩)|(go_at_call 78;(with_reducible refine (spec_l1Has.calls k1 _ _ (rd_L2 l0 x12_1) a2 true _ ?side1 ?side2 A9.out).mono ?_);(case side1=>exact CW (Kd.C_below HR408_0.out BB));(case side2=>exact HC408_0.out);rintro e w' ⟨rfl,⟨nd,rfl⟩⟩)|((with_reducible refine gate_builtin (b:=.append) (xs:=#[.tmp 25,.tmp 27]) rfl ?_);at_builtin;refine Kd.R_append (Kd.int .i64) (w0:=w) w.heap.size rfl (.tmp 25) (.tmp 27) 24 3 (.int .i64 0) 8 rfl Try.underlying24 info3 rfl (by decide) (by omega) u7 x7_1 x12_1 [.int .i64 x12_1] (fun _=>True) (fun _=>False) rfl rfl ?aP (fun _ hk=>hk.elim) ?aF ?aO ?aB ?aS ?aL ?_;(case aP=>exact rfl);(case aB=>exact BB);(case aF=>exact (fun _ _=>trivial));(case aO=>exact (KR HO_7));(case aS=>exact (BZ BB));(case aL=>have:=LMc11.out;omega);intro v412 w12 ho hb hg hat;rw [← Ny411.out] at ho;replace HB:=AM hb;have HO413:=AM ho;clear HO_7;clear ho hb hg hat));go_roundg k1
      case measure=>have:=HK1.out;omega
      case rel=>exact ⟨(y411),(wrap64 (x12_1 + 1)),RF,H',⟨by have:=HK1.out;omega⟩,⟨KR HO413⟩,⟨BB⟩⟩
     ·replace c10:=NF c10;subst c10;replace H:=IN H;have H':=AM H;clear H;have p408 : 0 ≤ (x12_1 : Int):=OD AS;have q408 : x12_1 < (l0.length : Int):=OD AS;obtain ⟨ad408,A408_0,c408_0,e408,hx408_0,hl408_0,hi408_0⟩:=at_L2 HR0.out x12_1 p408 q408;cases e408;try (replace hx408_0:=LC hx408_0)
      have HR408_0:=AM hi408_0;have HC408_0:=AM hl408_0;clear hi408_0 hl408_0;replace p408:=ET p408;replace q408:=ET q408;go_wp2_with (first|(refine GC 78 ?_;refine GM (some 19) Try.func78 (spec_l1Has.calls k1 _ _ (rd_L2 l0 x12_1) a1 true _ ?side1 ?side2 A7.out) ?_;(case side1=>exact CW (Kd.C_below HR408_0.out HB.out));(case side2=>exact HC408_0.out);rintro e w' ⟨rfl,⟨nd,rfl⟩⟩;refine ⟨_,rfl,?_⟩)|(go_at_call 78;(with_reducible refine (spec_l1Has.calls k1 _ _ (rd_L2 l0 x12_1) a2 false _ ?side1 ?side2 A9.out).mono ?_);(case side1=>exact CW (Kd.C_below HR408_0.out BB));(case side2=>exact HC408_0.out);rintro e w' ⟨rfl,⟨nd,rfl⟩⟩));go_roundg k1
      case measure=>have:=HK1.out;omega
      case rel=>exact ⟨(x7_1),(wrap64 (x12_1 + 1)),RF,H',⟨by have:=HK1.out;omega⟩,⟨KR HO_7⟩,⟨BB⟩⟩
    ·replace c8:=NF c8;subst c8;replace H:=IN H;have H':=AM H;clear H;have p408 : 0 ≤ (x12_1 : Int):=OD AS;have q408 : x12_1 < (l0.length : Int):=OD AS;obtain ⟨ad408,A408_0,c408_0,e408,hx408_0,hl408_0,hi408_0⟩:=at_L2 HR0.out x12_1 p408 q408;cases e408;try (replace hx408_0:=LC hx408_0)
     have HR408_0:=AM hi408_0;have HC408_0:=AM hl408_0;clear hi408_0 hl408_0;replace p408:=ET p408;replace q408:=ET q408;go_wp2_with (first|(refine GC 78 ?_;refine GM (some 19) Try.func78 (spec_l1Has.calls k1 _ _ (rd_L2 l0 x12_1) a1 false _ (CW (Kd.C_below HR408_0.out HB.out)) HC408_0.out A7.out) ?_;rintro e w' ⟨rfl,⟨nd,rfl⟩⟩;refine ⟨_,rfl,?_⟩));go_roundg k1
     case measure=>have:=HK1.out;omega
     case rel=>exact ⟨(x7_1),(wrap64 (x12_1 + 1)),RF,H',⟨by have:=HK1.out;omega⟩,⟨KR HO_7⟩,⟨BB⟩⟩
   ·rw [if_neg c4] at H;have c4b0:=DF c4;clear c4;obtain rfl:=Option.some.inj H;go_wp2;go_ret;exact ⟨_,RE,KR HO_7,BB⟩

end Go.Proofs.Ytlolkkfpfjlhmaa.PFnOppositeEdgesFound
