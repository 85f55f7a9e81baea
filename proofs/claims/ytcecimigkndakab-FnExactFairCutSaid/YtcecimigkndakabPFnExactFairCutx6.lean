-- Written by a program of this session (wip/tools/pp.sh) out of the translation; Lean checks it.
import Derived.Test.YtcecimigkndakabPFnExactFairCutx5
namespace Go.Proofs.Ytcecimigkndakab.PFnExactFairCut
open Go.RowKit Go.Proofs.YtcecimigkndakabOwn Go.Proofs.YtcecimigkndakabW.PrintWords Go.Proofs.YtcecimigkndakabW.PrintLast Go.Proofs.YtcecimigkndakabW.PrintMore
attribute [local go_sem] max2_int min2_int max_two min_two max_three min_three max_four min_four   -- for this text's walks alone
set_option linter.unusedVariables false
set_option maxHeartbeats 8000000
set_option maxRecDepth 100000
set_option linter.unusedSimpArgs false

/-! ### spec_doWalk: function 44 -/
mutual
def spec_doWalk.l0 : Nat→List (List Int)→List Int→List Int→Int→List Int→Option (List Int × List Int)
 | 0,_,_,_,_,_=>none
 | k + 1,x0,x1,x2,x3,x10=>if x3 ≥ 0 then (spec_doWalk.j1 k x0 x1 x2 x3 x10 (decide ((x10.length : Int) ≤ (x0.length : Int)))) else (spec_doWalk.j1 k x0 x1 x2 x3 x10 false)
def spec_doWalk.j1 : Nat→List (List Int)→List Int→List Int→Int→List Int→Bool→Option (List Int × List Int)
 | 0,_,_,_,_,_,_=>none
 | k + 1,x0,x1,x2,x3,x10,x21=>if x21 = true then (if x10.length < 17592186044416 then ((some (x10 ++ [x3] : List Int)).bind fun y234=>(if 0 ≤ x3 then (if x3 < (x0.length : Int) then ((spec_doFull.f k x1 (rd_L1 x0 x3)).bind fun t238=>(if t238 = true then (some (y234,x2)) else ((spec_doOfCell.f k x1 (rd_L1 x0 x3)).bind fun t240=>(spec_doWalk.l1 k x0 x1 x2 x3 y234 t240 (t240.length : Int) 0)))) else (none)) else (none))) else (none)) else (some (x10,x2))
def spec_doWalk.l1 : Nat→List (List Int)→List Int→List Int→Int→List Int→List (List Int)→Int→Int→Option (List Int × List Int)
 | 0,_,_,_,_,_,_,_,_=>none
 | k + 1,x0,x1,x2,x3,x10,x37,x38,x39=>if x39 < x38 then (if 0 ≤ x39 then (if x39 < (x37.length : Int) then ((spec_l1Same.f k (rd_L1 x37 x39) x2).bind fun t244=>(if t244 = true then (spec_doWalk.l1 k x0 x1 x2 x3 x10 x37 x38 (wrap64 (x39 + 1))) else ((spec_doNext.f k x0 (rd_L1 x37 x39) x3).bind fun t245=>(spec_doWalk.l0 k x0 x1 (rd_L1 x37 x39) t245 x10)))) else (none)) else (none)) else ((spec_doNext.f k x0 x2 x3).bind fun t246=>(spec_doWalk.l0 k x0 x1 x2 t246 x10))
end
def spec_doWalk.f (k : Nat) (l0 : List (List Int)) (l1 : List Int) (l2 : List Int) (a3 : Int) : Option (List Int × List Int):=spec_doWalk.l0 k l0 l1 l2 a3 ([] : List Int)
theorem spec_doWalk.mono_l : ∀ k,(∀ y0 y1 y2 y3 y4,LeO (spec_doWalk.l0 k y0 y1 y2 y3 y4) (spec_doWalk.l0 (k + 1) y0 y1 y2 y3 y4))∧(∀ y0 y1 y2 y3 y4 y5,LeO (spec_doWalk.j1 k y0 y1 y2 y3 y4 y5) (spec_doWalk.j1 (k + 1) y0 y1 y2 y3 y4 y5))∧(∀ y0 y1 y2 y3 y4 y5 y6 y7,LeO (spec_doWalk.l1 k y0 y1 y2 y3 y4 y5 y6 y7) (spec_doWalk.l1 (k + 1) y0 y1 y2 y3 y4 y5 y6 y7))
 | 0=>⟨fun _ _ _ _ _=>LZ,fun _ _ _ _ _ _=>LZ,fun _ _ _ _ _ _ _ _=>LZ⟩
 | k + 1=>by
  obtain ⟨ih0,ih1,ih2⟩:=spec_doWalk.mono_l k
  have m0:=@spec_doFull.mono
  have m1:=@spec_doNext.mono
  have m2:=@spec_doOfCell.mono
  have m3:=@spec_l1Same.mono
  refine ⟨?_,?_,?_⟩ <;> intros
  all_goals (first|unfold spec_doWalk.l0|unfold spec_doWalk.j1|unfold spec_doWalk.l1)
  all_goals exact MO
theorem spec_doWalk.mono : ∀ a0 a1 a2 a3 k,LeO (spec_doWalk.f k a0 a1 a2 a3) (spec_doWalk.f (k + 1) a0 a1 a2 a3):=by
 intro a0 a1 a2 a3 k;obtain ⟨ih0,ih1,ih2⟩:=spec_doWalk.mono_l k;unfold spec_doWalk.f
 have m0:=@spec_doFull.mono
 have m1:=@spec_doNext.mono
 have m2:=@spec_doOfCell.mono
 have m3:=@spec_l1Same.mono
 exact MO
theorem spec_doWalk.calls (k : Nat) (A0 : Option Addr) (c0 : Nat) (l0 : List (List Int)) (A1 : Option Addr) (c1 : Nat) (l1 : List Int) (P2_ : Nat→Prop) (A2 : Option Addr) (c2 : Nat) (l2 : List Int) (a3 : Int) (r1 : List Int) (r2 : List Int) (w : World) (hr0 : Kd.C (Kd.slice 3 (Kd.int .i64)) w A0 l0.length l0) (hc0 : l0.length ≤ c0) (hr1 : Kd.C (Kd.int .i64) w A1 l1.length l1) (hc1 : l1.length ≤ c1) (hs2 : Kd.V (Kd.int .i64) 3 w w.heap.size (fun k_=>P2_ k_) (.slice A2 l2.length c2) l2) (h : spec_doWalk.f k l0 l1 l2 a3 = some (r1,r2)) :
  Calls Try.prog 44 #[.slice A0 l0.length c0,.slice A1 l1.length c1,.slice A2 l2.length c2,.int .i64 a3] w fun e w'=>∃ v0_ v1_ : Value,e = .returned (.tuple #[v0_,v1_])∧Kd.R (Kd.int .i64) 3 w' w.heap.size (fun k_=>(w.heap.size ≤ k_)) v0_ r1∧Kd.V (Kd.int .i64) 3 w' w.heap.size (fun k_=>(P2_ k_ ∨ w.heap.size ≤ k_)∧some k_≠(v0_ : Value).ownBlock) v1_ r2∧Below w.heap.size w w':=by
 have HR0:=AM hr0;have HC0:=AM hc0;clear hr0 hc0;have HR1:=AM hr1;have HC1:=AM hc1;clear hr1 hc1;have HO2:=AM (show Kd.V (Kd.int .i64) 3 w w.heap.size (fun k_=>(P2_ k_ ∨ w.heap.size ≤ k_)) (.slice A2 l2.length c2) l2 from Kd.V_mono hs2 (fun k_ hk=>.inl hk));have HB:=HRf w;have H : (spec_doWalk.l0 k l0 l1 l2 a3 ([] : List Int)) = some (r1,r2):=h;clear h;have H':=AM H;clear H;go_enter Try.func44,Try.ntmps44;go_wp2;go_loopg [2,3,10] k (fun kq v2 v3 v10 w'=>∃ (x2_1 : List Int) (x3_1 : Int) (x10_1 : List Int),v3 = .int .i64 x3_1∧Aside0 (spec_doWalk.l0 kq l0 l1 x2_1 x3_1 x10_1 = some (r1,r2))∧Aside0 (kq ≤ k)∧Aside0 (Kd.V (Kd.int .i64) 3 w' w.heap.size (fun k_=>(P2_ k_ ∨ w.heap.size ≤ k_)∧some k_≠(v10 : Value).ownBlock) v2 x2_1)∧Aside0 (Kd.R (Kd.int .i64) 3 w' w.heap.size (fun k_=>(w.heap.size ≤ k_)) v10 x10_1)∧Aside0 (Below w.heap.size w w'))
 case atStart=>exact ⟨(l2),(a3),(([] : List Int)),RF,H',⟨Nat.le_refl _⟩,⟨by (with_reducible repeat (first|apply Kd.V_alloc|apply Kd.V_drewN|apply Kd.V_drew));exact Kd.V_mono HO2.out (fun _ hk=>⟨hk,(by simp [Value.ownBlock])⟩)⟩,⟨by first|exact Kd.R_nil _ _ _ _ _|exact Kd.N_nil _ _ _ _ _|exact Kd.V_nil _ _ _ _ _|exact Kd.Q_nil _ _ _ _ _|exact Kd.S_nil _ _ _ _ _⟩,⟨BB⟩⟩
 case round =>
  clear H';try clear c1
  try clear c2
  try clear p2
  try clear c4
  obtain ⟨x2_1,x3_1,x10_1,rfl,HA,HK1,HO_2,HO_10,HB⟩:=hrel;cases gk with
  | zero=>exact absurd HA.out (by simp [spec_doWalk.l0])
  | succ k1 =>
   have H:=HA.out;clear HA;simp only [spec_doWalk.l0] at H;have HC5:=AM H;clear H;go_upto_region 2 with (fail)
   go_cut [21] (fun v21 wc=>∃ (kq : Nat) (x21_4 : Bool),v21 = .bool x21_4∧Aside0 (spec_doWalk.j1 kq l0 l1 x2_1 x3_1 x10_1 x21_4 = some (r1,r2))∧Aside0 (kq ≤ k1)∧Aside0 (Kd.V (Kd.int .i64) 3 wc w.heap.size (fun k_=>(P2_ k_ ∨ w.heap.size ≤ k_)∧some k_≠(u10 : Value).ownBlock) u2 x2_1)∧Aside0 (Kd.R (Kd.int .i64) 3 wc w.heap.size (fun k_=>(w.heap.size ≤ k_)) u10 x10_1)∧Aside0 (Below w.heap.size w wc))
   case first =>
    have H:=HC5.out;clear HC5;by_cases c6 : x3_1 ≥ 0
    ·rw [if_pos c6] at H;have c6b0:=DT c6;clear c6
     (first|rw [c6b0]|(simp only [i64_w,i32_w];rw [c6b0])|skip);have H':=AM H;clear H;obtain ⟨Ao7,co7,eo7⟩:=Kd.R_slice HO_10.out;subst eo7;go_wp2;go_meet
     case rel=>exact ⟨_,(decide ((x10_1.length : Int) ≤ (l0.length : Int))),RF,H',⟨by have:=HK1.out;first|omega|exact Nat.le_refl _⟩,⟨KV HO_2⟩,⟨KR HO_10⟩,⟨BB⟩⟩
    ·rw [if_neg c6] at H;have c6b0:=DF c6;clear c6
     (first|rw [c6b0]|(simp only [i64_w,i32_w];rw [c6b0])|skip);have H':=AM H;clear H;go_wp2;go_meet
     case rel=>exact ⟨_,(false),RF,H',⟨by have:=HK1.out;first|omega|exact Nat.le_refl _⟩,⟨KV HO_2⟩,⟨KR HO_10⟩,⟨BB⟩⟩
   case rest =>
    clear HC5;try clear c1
    try clear c2
    try clear p2
    try clear c4
    try clear c6
    try clear c6b0
    try clear p6
    try clear p2
    obtain ⟨kq,x21_4,rfl,HA,HJ4,HO_2,HO_10,HB⟩:=hcut;cases kq with
    | zero=>exact absurd HA.out (by simp [spec_doWalk.j1])
    | succ kj4 =>
     have H:=HA.out;clear HA;simp only [spec_doWalk.j1] at H;by_cases c8 : x21_4 = true
     ·subst c8;replace H:=IP H;replace H:=IC H;obtain ⟨c9,H⟩:=H;have LMc9:=AM c9;clear c9;obtain ⟨y234,hy234⟩ : ∃ y_ : List Int,y_ = (x10_1 ++ [x3_1]):=⟨_,rfl⟩;replace H : (if 0 ≤ x3_1 then (if x3_1 < (l0.length : Int) then ((spec_doFull.f kj4 l1 (rd_L1 l0 x3_1)).bind fun t238=>(if t238 = true then (some (y234,x2_1)) else ((spec_doOfCell.f kj4 l1 (rd_L1 l0 x3_1)).bind fun t240=>(spec_doWalk.l1 kj4 l0 l1 x2_1 x3_1 y234 t240 (t240.length : Int) 0)))) else (none)) else (none)) = some (r1,r2):=HY H hy234;have Ny234:=AM hy234;clear hy234;replace H:=IC H;obtain ⟨c10,H⟩:=H;have c10b0:=DT c10;clear c10;replace H:=IC H;obtain ⟨c11,H⟩:=H;have c11b0:=DT c11;clear c11;replace H:=EA H;obtain ⟨t238,A12,H⟩:=H;by_cases c13 : t238 = true
      ·subst c13;replace H:=IP H;simp only [Option.some.injEq,Prod.mk.injEq] at H;obtain ⟨rfl,rfl⟩:=H;go_wp2_with (first|((with_reducible refine gate_builtin (b:=.append) (xs:=#[.tmp 22,.tmp 24]) rfl ?_);(try (refine gate_guard (by rfl) ?_;dsimp only));at_builtin;refine Kd.R_append (Kd.int .i64) (w0:=w) w.heap.size rfl (.tmp 22) (.tmp 24) 24 3 (.int .i64 0) 8 rfl Try.underlying24 info3 rfl (by decide) (by omega) u10 x10_1 x3_1 [.int .i64 x3_1] (fun k_=>(w.heap.size ≤ k_)) (fun _=>False) rfl rfl ?aP (fun _ hk=>hk.elim) ?aF ?aO ?aB ?aS ?aL ?_;(case aP=>exact rfl);(case aB=>exact BB);(case aF=>exact (fun k_ hk=>(Nat.le_trans (BZ BB) hk)));(case aO=>exact (KR HO_10));(case aS=>exact (BZ BB));(case aL=>have:=LMc9.out;omega);intro v235 w14 ho hb hg hat;rw [← Ny234.out] at ho;replace HO_2:=AM (Kd.V_afterv (ok:=(fun k_=>(P2_ k_ ∨ w.heap.size ≤ k_))) (KV HO_2) hg hat);replace HB:=AM hb;have HO236:=AM ho;clear HO_10;clear ho hb hg hat;have p237 : 0 ≤ (x3_1 : Int):=OD AS;have q237 : x3_1 < (l0.length : Int):=OD AS;obtain ⟨ad237,A237_0,c237_0,e237,hx237_0,hl237_0,hi237_0⟩:=at_L1 HR0.out x3_1 p237 q237;cases e237;replace hx237_0:=LC hx237_0;have HR237_0:=AM hi237_0;have HC237_0:=AM hl237_0;clear hi237_0 hl237_0;replace p237:=ET p237;replace q237:=ET q237)|(refine GC 32 ?_;refine GM (some 31) Try.func32 (spec_doFull.calls kj4 _ _ l1 _ _ (rd_L1 l0 x3_1) true _ (CW (Kd.C_below HR1.out HB.out)) HC1.out (CW (Kd.C_below HR237_0.out HB.out)) HC237_0.out A12.out) ?_;rintro e w' ⟨rfl,⟨nd,rfl⟩⟩;refine ⟨_,rfl,?_⟩));go_ret2;exact ⟨_,_,RE,KR HO236,by (with_reducible repeat (first|apply Kd.V_alloc|apply Kd.V_drewN|apply Kd.V_drew));exact HO_2.out,BB⟩
      ·replace c13:=NF c13;subst c13;replace H:=IN H;replace H:=EA H;obtain ⟨t240,A15,H⟩:=H;have H':=AM H;clear H;go_wp2_with (first|((with_reducible refine gate_builtin (b:=.append) (xs:=#[.tmp 22,.tmp 24]) rfl ?_);(try (refine gate_guard (by rfl) ?_;dsimp only));at_builtin;refine Kd.R_append (Kd.int .i64) (w0:=w) w.heap.size rfl (.tmp 22) (.tmp 24) 24 3 (.int .i64 0) 8 rfl Try.underlying24 info3 rfl (by decide) (by omega) u10 x10_1 x3_1 [.int .i64 x3_1] (fun k_=>(w.heap.size ≤ k_)) (fun _=>False) rfl rfl ?aP (fun _ hk=>hk.elim) ?aF ?aO ?aB ?aS ?aL ?_;(case aP=>exact rfl);(case aB=>exact BB);(case aF=>exact (fun k_ hk=>(Nat.le_trans (BZ BB) hk)));(case aO=>exact (KR HO_10));(case aS=>exact (BZ BB));(case aL=>have:=LMc9.out;omega);intro v235 w16 ho hb hg hat;rw [← Ny234.out] at ho;replace HO_2:=AM (Kd.V_afterv (ok:=(fun k_=>(P2_ k_ ∨ w.heap.size ≤ k_))) (KV HO_2) hg hat);replace HB:=AM hb;have HO236:=AM ho;clear HO_10;clear ho hb hg hat;have p237 : 0 ≤ (x3_1 : Int):=OD AS;have q237 : x3_1 < (l0.length : Int):=OD AS;obtain ⟨ad237,A237_0,c237_0,e237,hx237_0,hl237_0,hi237_0⟩:=at_L1 HR0.out x3_1 p237 q237;cases e237;replace hx237_0:=LC hx237_0;have HR237_0:=AM hi237_0;have HC237_0:=AM hl237_0;clear hi237_0 hl237_0;replace p237:=ET p237;replace q237:=ET q237)|(refine GC 32 ?_;refine GM (some 31) Try.func32 (spec_doFull.calls kj4 _ _ l1 _ _ (rd_L1 l0 x3_1) false _ (CW (Kd.C_below HR1.out HB.out)) HC1.out (CW (Kd.C_below HR237_0.out HB.out)) HC237_0.out A12.out) ?_;rintro e w' ⟨rfl,⟨nd,rfl⟩⟩;refine ⟨_,rfl,?_⟩;have p239 : 0 ≤ (x3_1 : Int):=OD AS;have q239 : x3_1 < (l0.length : Int):=OD AS;obtain ⟨ad239,A239_0,c239_0,e239,hx239_0,hl239_0,hi239_0⟩:=at_L1 HR0.out x3_1 p239 q239;obtain rfl : ad237 = ad239:=(by injection e239);replace hx239_0:=LC hx239_0;have HR239_0:=AM hi239_0;have HC239_0:=AM hl239_0;clear hi239_0 hl239_0;replace p239:=ET p239;replace q239:=ET q239;have ea_:=Option.some.inj (hx237_0.symm.trans hx239_0);injection ea_ with ea_ en_ ec_;subst ea_;subst ec_;clear en_)|(refine GC 55 ?_;refine GM (some 37) Try.func55 (spec_doOfCell.calls kj4 _ _ l1 _ _ (rd_L1 l0 x3_1) t240 _ (CW (Kd.C_below HR1.out BB)) HC1.out (CW (Kd.C_below HR239_0.out BB)) HC239_0.out A15.out) ?_;rintro e w17 ⟨v241,rfl,ho0,hb⟩;refine ⟨_,rfl,?_⟩;replace HO_2:=AM (Kd.V_elder' (KV HO_2) (Kd.S_base ho0) hb);have HO242:=AM (Kd.S_lower (Kd.S_new' (Kd.S_newM (M:=fun k_=>(w.heap.size ≤ k_)) ho0 (BZ BB) (fun k_ h_=>h_)) (Kd.R_lt (KR HO236))) (BZ BB));replace HO236:=RB HO236 hb;replace HB:=HS hb;try clear hb ho0;obtain ⟨Ao18,co18,eo18⟩:=Kd.S_slice HO242.out;subst eo18));go_loopg [2,39] kj4 (fun kq v2 v39 w'=>∃ (x2_3 : List Int) (x39_3 : Int),v39 = .int .i64 x39_3∧Aside0 (spec_doWalk.l1 kq l0 l1 x2_3 x3_1 y234 t240 (t240.length : Int) x39_3 = some (r1,r2))∧Aside0 (kq ≤ kj4)∧Aside0 (Kd.V (Kd.int .i64) 3 w' w.heap.size (fun k_=>(P2_ k_ ∨ w.heap.size ≤ k_)∧some k_≠(v235 : Value).ownBlock∧some k_≠((.slice Ao18 t240.length co18) : Value).ownBlock) v2 x2_3)∧Aside0 (Kd.R (Kd.int .i64) 3 w' w.heap.size (fun k_=>(w.heap.size ≤ k_)) v235 y234)∧Aside0 (Kd.S (Kd.slice 3 (Kd.int .i64)) 24 w' w.heap.size (fun k_=>(w.heap.size ≤ k_)∧some k_≠(v235 : Value).ownBlock) (.slice Ao18 t240.length co18) t240)∧Aside0 (Below w.heap.size w w'))
       case atStart=>exact ⟨(x2_1),(0),RF,H',⟨Nat.le_refl _⟩,⟨by (with_reducible repeat (first|apply Kd.V_alloc|apply Kd.V_drewN|apply Kd.V_drew));exact Kd.V_mono HO_2.out (fun _ hk=>⟨hk.1.1,⟨hk.1.2,hk.2⟩⟩)⟩,⟨KR HO236⟩,⟨by (with_reducible repeat (first|apply Kd.S_alloc|apply Kd.S_drewN|apply Kd.S_drew));exact Kd.S_mono HO242.out (fun _ hk=>⟨hk.1.1,hk.2⟩)⟩,⟨BB⟩⟩
       case round =>
        clear H';try clear c1
        try clear c2
        try clear p2
        try clear q2
        try clear hx2
        try clear c3
        try clear c4
        try clear c5
        try clear c6
        try clear c6b0
        try clear p6
        try clear c8
        try clear c9
        try clear c10
        try clear c10b0
        try clear c11
        try clear c11b0
        try clear c13
        try clear hx237_0
        try clear hx239_0
        try clear p2
        try clear p237
        try clear p239
        try clear p6
        try clear q237
        try clear q239
        obtain ⟨x2_3,x39_3,rfl,HA,HK3,HO_2,HO_10,HO_37,HB⟩:=hrel;cases gk with
        | zero=>exact absurd HA.out (by simp [spec_doWalk.l1])
        | succ k3 =>
         have H:=HA.out;clear HA;simp only [spec_doWalk.l1] at H;by_cases c19 : x39_3 < (t240.length : Int)
         ·rw [if_pos c19] at H;have c19b0:=DT c19;clear c19;replace H:=IC H;obtain ⟨c20,H⟩:=H;have c20b0:=DT c20;clear c20;replace H:=IC H;obtain ⟨c21,H⟩:=H;have c21b0:=DT c21;clear c21;replace H:=EA H;obtain ⟨t244,A22,H⟩:=H;by_cases c23 : t244 = true
          ·subst c23;replace H:=IP H;have H':=AM H;clear H;have p243 : 0 ≤ (x39_3 : Int):=OD AS;have q243 : x39_3 < (t240.length : Int):=OD AS;obtain ⟨ad243,A243_0,c243_0,e243,hx243_0,hl243_0,hi243_0⟩:=at_L1 (Kd.S_reads' HO_37.out).2.2 x39_3 p243 q243;cases e243;obtain ⟨ce243,hce243,hMe243,hcc243⟩:=Kd.S_get HO_37.out [] x39_3 p243 (by first|exact q243|exact OD AS|(have e_:=(Kd.S_reads' HO_37.out).1;omega));obtain ⟨ve243_0,rfl,ge243_0⟩:=hMe243;have hv243_0:=hcc243 0 _ rfl;rw [Nat.add_zero,show ((Kd.slice 3 (Kd.int .i64))).sz = 1 from rfl,Nat.mul_one] at hv243_0;replace hv243_0:=Option.some.inj (hv243_0.symm.trans hx243_0);rw [hv243_0] at ge243_0;have HL243_0:=AM (show Kd.R (Kd.int .i64) 3 _ _ _ _ (rd_L1 t240 x39_3) from ge243_0);clear hv243_0 ge243_0;clear hcc243 hce243;have HR243_0:=AM hi243_0;have HC243_0:=AM hl243_0;clear hi243_0 hl243_0;replace p243:=ET p243;replace q243:=ET q243;obtain ⟨Ao24,co24,eo24⟩:=Kd.V_slice HO_2.out;subst eo24;go_wp2_with (first|(refine GC 56 ?_;refine GM (some 45) Try.func56 (spec_l1Same.calls k3 _ _ (rd_L1 t240 x39_3) _ _ x2_3 true _ (CX HR243_0) HC243_0.out (CW (Kd.V_reads' HO_2.out).2.2) ((Kd.V_reads' HO_2.out).2.1) A22.out) ?_;rintro e w' ⟨rfl,⟨nd,rfl⟩⟩;refine ⟨_,rfl,?_⟩));go_roundg k3
           case measure=>have:=HK1.out;have:=HJ4.out;have:=HK3.out;omega
           case rel=>exact ⟨(x2_3),(wrap64 (x39_3 + 1)),RF,H',⟨by have:=HK1.out;have:=HJ4.out;have:=HK3.out;omega⟩,⟨KV HO_2⟩,⟨KR HO_10⟩,⟨KS HO_37⟩,⟨BB⟩⟩
          ·replace c23:=NF c23;subst c23;replace H:=IN H;replace H:=EA H;obtain ⟨t245,A25,H⟩:=H;have H':=AM H;clear H;have p243 : 0 ≤ (x39_3 : Int):=OD AS;have q243 : x39_3 < (t240.length : Int):=OD AS;obtain ⟨ad243,A243_0,c243_0,e243,hx243_0,hl243_0,hi243_0⟩:=at_L1 (Kd.S_reads' HO_37.out).2.2 x39_3 p243 q243;cases e243;obtain ⟨ce243,hce243,hMe243,hcc243⟩:=Kd.S_get HO_37.out [] x39_3 p243 (by first|exact q243|exact OD AS|(have e_:=(Kd.S_reads' HO_37.out).1;omega));obtain ⟨ve243_0,rfl,ge243_0⟩:=hMe243;have hv243_0:=hcc243 0 _ rfl;rw [Nat.add_zero,show ((Kd.slice 3 (Kd.int .i64))).sz = 1 from rfl,Nat.mul_one] at hv243_0;replace hv243_0:=Option.some.inj (hv243_0.symm.trans hx243_0);rw [hv243_0] at ge243_0;have HL243_0:=AM (show Kd.R (Kd.int .i64) 3 _ _ _ _ (rd_L1 t240 x39_3) from ge243_0);clear hv243_0 ge243_0;clear hcc243 hce243;have HR243_0:=AM hi243_0;have HC243_0:=AM hl243_0;clear hi243_0 hl243_0;replace p243:=ET p243;replace q243:=ET q243;obtain ⟨Ao26,co26,eo26⟩:=Kd.V_slice HO_2.out;subst eo26;go_wp2_with (first|(refine GC 56 ?_;refine GM (some 45) Try.func56 (spec_l1Same.calls k3 _ _ (rd_L1 t240 x39_3) _ _ x2_3 false _ (CX HR243_0) HC243_0.out (CW (Kd.V_reads' HO_2.out).2.2) ((Kd.V_reads' HO_2.out).2.1) A22.out) ?_;rintro e w' ⟨rfl,⟨nd,rfl⟩⟩;refine ⟨_,rfl,?_⟩)|(refine GC 46 ?_;refine GM (some 52) Try.func46 (spec_doNext.calls k3 _ _ l0 _ _ (rd_L1 t240 x39_3) x3_1 t245 _ (CW (Kd.C_below HR0.out BB)) HC0.out (CX HR243_0) HC243_0.out A25.out) ?_;rintro e w27 ⟨rfl,hb⟩;refine ⟨_,rfl,?_⟩;replace HO_2:=VB HO_2 hb;replace HO_10:=RB HO_10 hb;replace HO_37:=SB HO_37 hb;replace HL243_0:=RB HL243_0 hb;replace HR243_0:=AM (Kd.C_below (CX HR243_0) hb);replace HB:=HS hb;try clear hb));go_roundg k3
           case measure=>have:=HK1.out;have:=HJ4.out;have:=HK3.out;omega
           case rel=>exact ⟨(rd_L1 t240 x39_3),(t245),(y234),RF,H',⟨by have:=HK1.out;have:=HJ4.out;have:=HK3.out;omega⟩,⟨Kd.V_mono (Kd.R_V (KR HL243_0)) (fun k_ hk=>by first|exact ⟨.inr hk.1.1,hk.1.2⟩|exact .inr hk.1.1)⟩,⟨KR HO_10⟩,⟨BB⟩⟩
         ·rw [if_neg c19] at H;have c19b0:=DF c19;try (have c19bl:=c19b0;rw [hl237_0] at c19bl)
          clear c19;replace H:=EA H;obtain ⟨t246,A28,H⟩:=H;have H':=AM H;clear H;obtain ⟨Ao29,co29,eo29⟩:=Kd.V_slice HO_2.out;subst eo29;go_wp2_with (first|(refine GC 46 ?_;refine GM (some 52) Try.func46 (spec_doNext.calls k3 _ _ l0 _ _ x2_3 x3_1 t246 _ (CW (Kd.C_below HR0.out HB.out)) HC0.out (CW (Kd.V_reads' HO_2.out).2.2) ((Kd.V_reads' HO_2.out).2.1) A28.out) ?_;rintro e w30 ⟨rfl,hb⟩;refine ⟨_,rfl,?_⟩;replace HO_2:=VB HO_2 hb;replace HO_10:=RB HO_10 hb;replace HO_37:=SB HO_37 hb;replace HB:=HS hb;try clear hb));go_roundg k3
          case measure=>have:=HK1.out;have:=HJ4.out;have:=HK3.out;omega
          case rel=>exact ⟨(x2_3),(t246),(y234),RF,H',⟨by have:=HK1.out;have:=HJ4.out;have:=HK3.out;omega⟩,⟨by (with_reducible repeat (first|apply Kd.V_alloc|apply Kd.V_drewN|apply Kd.V_drew));exact Kd.V_mono HO_2.out (fun _ hk=>⟨hk.1,hk.2.1⟩)⟩,⟨KR HO_10⟩,⟨BB⟩⟩
     ·replace c8:=NF c8;subst c8;replace H:=IN H;simp only [Option.some.injEq,Prod.mk.injEq] at H;obtain ⟨rfl,rfl⟩:=H;go_wp2;go_ret2;exact ⟨_,_,RE,KR HO_10,by (with_reducible repeat (first|apply Kd.V_alloc|apply Kd.V_drewN|apply Kd.V_drew));exact HO_2.out,BB⟩

/-! ### spec_l1Least: function 57 -/
def spec_l1Least.f (a0 : Int) (a1 : Int) : Option (Int):=if a0 < a1 then (some a0) else (some a1)
theorem spec_l1Least.calls (a0 : Int) (a1 : Int) (r : Int) (w : World) (h : spec_l1Least.f a0 a1 = some r) :
  Calls Try.prog 57 #[.int .i64 a0,.int .i64 a1] w fun e w'=>e = .returned (.int .i64 r)∧Drawn0 w w':=by
 have H : (if a0 < a1 then (some a0) else (some a1)) = some r:=h;clear h;by_cases c3 : a0 < a1
 ·rw [if_pos c3] at H;have c3b0:=DT c3;clear c3;obtain rfl:=Option.some.inj H;go_enter Try.func57,Try.ntmps57;go_wp2;go_ret;exact ⟨RF,DR⟩
 ·rw [if_neg c3] at H;have c3b0:=DF c3;clear c3;obtain rfl:=Option.some.inj H;go_enter Try.func57,Try.ntmps57;go_wp2;go_ret;exact ⟨RF,DR⟩

/-! ### spec_doInner: function 45 -/
def spec_doInner.f (a0 : Int) (a1 : Int) : Option (List Int):=(spec_l1Least.f a0 a1).bind fun t247=>((spec_l1Most.f a0 a1).bind fun t248=>(some (([t247,t248] : List Int))))
theorem spec_doInner.calls (a0 : Int) (a1 : Int) (r : List Int) (w : World) (h : spec_doInner.f a0 a1 = some r) :
  Calls Try.prog 45 #[.int .i64 a0,.int .i64 a1] w fun e w'=>∃ v0_ : Value,e = .returned (v0_)∧Kd.R (Kd.int .i64) 3 w' w.heap.size (fun _=>True) v0_ r∧Below w.heap.size w w':=by
 have HB:=HRf w;have H : ((spec_l1Least.f a0 a1).bind fun t247=>((spec_l1Most.f a0 a1).bind fun t248=>(some (([t247,t248] : List Int))))) = some r:=h;clear h;replace H:=EA H;obtain ⟨t247,A3,H⟩:=H;replace H:=EA H;obtain ⟨t248,A4,H⟩:=H;obtain ⟨y249,hy249⟩ : ∃ y_ : List Int,y_ = (([t247,t248] : List Int)):=⟨_,rfl⟩;replace H : (some y249) = some r:=HY H hy249;have Ny249:=AM hy249;clear hy249;obtain rfl:=Option.some.inj H;go_enter Try.func45,Try.ntmps45;go_wp2_with (first|(refine GC 57 ?_;refine GM (some 7) Try.func57 (spec_l1Least.calls a0 a1 t247 _ A3.out) ?_;rintro e w' ⟨rfl,⟨nd,rfl⟩⟩;refine ⟨_,rfl,?_⟩)|(refine GC 58 ?_;refine GM (some 10) Try.func58 (spec_l1Most.calls a0 a1 t248 _ A4.out) ?_;rintro e w' ⟨rfl,⟨nd,rfl⟩⟩;refine ⟨_,rfl,?_⟩)|((with_reducible refine gate_dst (N:=11) rfl ?_);refine Kd.R_lit (Kd.int .i64) _ 3 ?hg (N:=11) ?hd (xs:=([t247,t248] : List Int)) (inner:=[.int .i64 t247,.int .i64 t248]) (ok:=fun _=>True) (okp:=fun _=>True) ?hr ?hp (fun _ hk=>hk) trivial (Below.refl _ _) (Nat.le_refl _) (by simp) ?_;(case hd=>rfl);(case hg=>rfl);(case hr=>exact GS);(case hp=>exact (Reps.one (show Kd.M (Kd.int .i64) _ _ _ t247 [.int .i64 t247] from rfl) (Reps.one (show Kd.M (Kd.int .i64) _ _ _ t248 [.int .i64 t248] from rfl) (Reps.none _ _))));intro v250 w5 ho6 hb hg_ hnew_;clear hg_ hnew_;(first|rw [← Ny249.out] at ho6|(simp only [Int.reduceToNat] at ho6;rw [← Ny249.out] at ho6));have HO251:=AM (Kd.R_lower ho6 (BZ BB));replace HB:=HS hb;clear hb ho6));go_ret;exact ⟨_,RE,KR HO251,BB⟩

/-! ### spec_doFrom: function 31 -/
def spec_doFrom.f (k : Nat) (a0 : Int) (l1 : List Int) (a2 : Int) (a3 : Int) : Option (List Int × List Int):=(spec_meCells.f k a0).bind fun t252=>((spec_doInner.f a2 a3).bind fun t255=>((spec_doInner.f a2 a3).bind fun t258=>((spec_doNext.f k t252 t258 (-1)).bind fun t261=>((spec_doWalk.f k t252 l1 t255 t261).bind fun bt262=>(some (bt262.1,bt262.2))))))
theorem spec_doFrom.mono : ∀ a0 a1 a2 a3 k,LeO (spec_doFrom.f k a0 a1 a2 a3) (spec_doFrom.f (k + 1) a0 a1 a2 a3):=by
 intro a0 a1 a2 a3 k;unfold spec_doFrom.f
 have m0:=@spec_doNext.mono
 have m1:=@spec_doWalk.mono
 have m2:=@spec_meCells.mono
 exact MO
theorem spec_doFrom.calls (k : Nat) (a0 : Int) (A1 : Option Addr) (c1 : Nat) (l1 : List Int) (a2 : Int) (a3 : Int) (r1 : List Int) (r2 : List Int) (w : World) (hr1 : Kd.C (Kd.int .i64) w A1 l1.length l1) (hc1 : l1.length ≤ c1) (h : spec_doFrom.f k a0 l1 a2 a3 = some (r1,r2)) :
  Calls Try.prog 31 #[.int .i64 a0,.slice A1 l1.length c1,.int .i64 a2,.int .i64 a3] w fun e w'=>∃ v0_ v1_ : Value,e = .returned (.tuple #[v0_,v1_])∧Kd.R (Kd.int .i64) 3 w' w.heap.size (fun k_=>(w.heap.size ≤ k_)) v0_ r1∧Kd.V (Kd.int .i64) 3 w' w.heap.size (fun k_=>(w.heap.size ≤ k_)∧some k_≠(v0_ : Value).ownBlock) v1_ r2∧Below w.heap.size w w':=by
 have HR1:=AM hr1;have HC1:=AM hc1;clear hr1 hc1;have HB:=HRf w;have H : ((spec_meCells.f k a0).bind fun t252=>((spec_doInner.f a2 a3).bind fun t255=>((spec_doInner.f a2 a3).bind fun t258=>((spec_doNext.f k t252 t258 (-1)).bind fun t261=>((spec_doWalk.f k t252 l1 t255 t261).bind fun bt262=>(some (bt262.1,bt262.2))))))) = some (r1,r2):=h;clear h;replace H:=EA H;obtain ⟨t252,A5,H⟩:=H;replace H:=EA H;obtain ⟨t255,A6,H⟩:=H;replace H:=EA H;obtain ⟨t258,A7,H⟩:=H;replace H:=EA H;obtain ⟨t261,A8,H⟩:=H;replace H:=EA H;obtain ⟨⟨t262,t265⟩,A9,H⟩:=H;try dsimp only at H
 simp only [Option.some.injEq,Prod.mk.injEq] at H;obtain ⟨rfl,rfl⟩:=H;go_enter Try.func31,Try.ntmps31;go_wp2_with (first|(refine GC 17 ?_;refine GM (some 12) Try.func17 (spec_meCells.calls k a0 t252 _ A5.out) ?_;rintro e w10 ⟨v253,rfl,ho0,hb⟩;refine ⟨_,rfl,?_⟩;have HO254:=AM (Kd.S_lower (Kd.S_newM (M:=fun k_=>(w.heap.size ≤ k_)) ho0 (BZ BB) (fun k_ h_=>h_)) (BZ BB));replace HB:=HS hb;try clear hb ho0)|(refine GC 45 ?_;refine GM (some 17) Try.func45 (spec_doInner.calls a2 a3 t255 _ A6.out) ?_;rintro e w11 ⟨v256,rfl,ho0,hb⟩;refine ⟨_,rfl,?_⟩;replace HO254:=SO HO254 ho0 hb;have HO257:=AM (Kd.R_lower (Kd.R_newM (M:=fun k_=>(w.heap.size ≤ k_)) ho0 (BZ BB) (fun k_ h_=>h_)) (BZ BB));replace HB:=HS hb;try clear hb ho0)|(refine GC 45 ?_;refine GM (some 21) Try.func45 (spec_doInner.calls a2 a3 t258 _ A7.out) ?_;rintro e w12 ⟨v259,rfl,ho0,hb⟩;refine ⟨_,rfl,?_⟩;replace HO254:=SO HO254 ho0 hb;have HO260:=AM (Kd.R_lower (Kd.R_new' (Kd.R_newM (M:=fun k_=>(w.heap.size ≤ k_)) ho0 (BZ BB) (fun k_ h_=>h_)) (Kd.R_lt (KR HO257))) (BZ BB));replace HO257:=RO HO257 ho0 hb;replace HB:=HS hb;try clear hb ho0;obtain ⟨Ao13,co13,eo13⟩:=Kd.S_slice HO254.out;subst eo13;obtain ⟨Ao14,co14,eo14⟩:=Kd.R_slice HO260.out;subst eo14)|(refine GC 46 ?_;refine GM (some 22) Try.func46 (spec_doNext.calls k _ _ t252 _ _ t258 (-1) t261 _ (CW (Kd.S_reads' HO254.out).2.2) ((Kd.S_reads' HO254.out).2.1) (CW (Kd.R_reads' HO260.out).2.2) ((Kd.R_reads' HO260.out).2.1) A8.out) ?_;rintro e w15 ⟨rfl,hb⟩;refine ⟨_,rfl,?_⟩;replace HO254:=SB HO254 hb;replace HO257:=RB HO257 hb;replace HO260:=RB HO260 hb;replace HB:=HS hb;try clear hb;obtain ⟨Ao16,co16,eo16⟩:=Kd.R_slice HO257.out;subst eo16)|(refine GC 44 ?_;refine GM (some 23) Try.func44 (spec_doWalk.calls k _ _ t252 _ _ l1 (fun k_=>some k_ = (.slice Ao16 t255.length co16 : Value).ownBlock) _ _ t255 t261 t262 t265 _ (CW (Kd.S_reads' HO254.out).2.2) ((Kd.S_reads' HO254.out).2.1) (CW (Kd.C_below HR1.out HB.out)) HC1.out (Kd.R_V (Kd.R_tight rfl (Kd.R_apart' (HO257.out) (Kd.S_typed HO254.out) (by decide)))) A9.out) ?_;rintro e w17 ⟨v263,v266,rfl,ho0,ho1,hb⟩;refine ⟨_,rfl,?_⟩;have HO264:=AM (Kd.R_lower (Kd.R_new' (Kd.R_new' (Kd.R_newM (M:=fun k_=>(w.heap.size ≤ k_)) (Kd.R_mono (ok':=fun k_=>True) ho0 (fun _ hk_=>trivial)) (BZ BB) (fun k_ h_=>h_)) (Kd.R_lt (KR HO257))) (Kd.R_lt (KR HO260))) (BZ BB));have HO267:=AM (Kd.V_lower (Kd.V_mono (ok':=fun k_=>(w.heap.size ≤ k_)∧some k_≠(v263 : Value).ownBlock∧some k_≠(.slice Ao13 t252.length co13 : Value).ownBlock∧some k_≠(.slice Ao14 t258.length co14 : Value).ownBlock) ho1 (fun k_ hk_=>⟨Or.elim hk_.1 (fun hs_=>((Kd.R_apart' (HO257.out) (Kd.S_typed HO254.out) (by decide)).1 k_ hs_.symm).1.1.1) (fun hn_=>(Nat.le_trans (BZ BB) hn_)),hk_.2,Or.elim hk_.1 (fun hs_=>((Kd.R_apart' (HO257.out) (Kd.S_typed HO254.out) (by decide)).1 k_ hs_.symm).2) (fun hn_=>(Kd.fresh' (Kd.S_lt (KS HO254)) k_ hn_)),Or.elim hk_.1 (fun hs_=>((Kd.R_apart' (HO257.out) (Kd.S_typed HO254.out) (by decide)).1 k_ hs_.symm).1.2) (fun hn_=>(Kd.fresh' (Kd.R_lt (KR HO260)) k_ hn_))⟩)) (BZ BB));replace HO254:=SO HO254 ho0 hb;replace HO257:=RO HO257 ho0 hb;replace HO260:=RO HO260 ho0 hb;replace HB:=HS hb;try clear hb ho0 ho1));go_ret2;exact ⟨_,_,RE,by (with_reducible repeat (first|apply Kd.R_alloc|apply Kd.R_drewN|apply Kd.R_drew));exact Kd.R_mono HO264.out (fun _ hk=>hk.1.1.1),by (with_reducible repeat (first|apply Kd.V_alloc|apply Kd.V_drewN|apply Kd.V_drew));exact Kd.V_mono HO267.out (fun _ hk=>⟨hk.1,hk.2.1⟩),BB⟩

end Go.Proofs.Ytcecimigkndakab.PFnExactFairCut
