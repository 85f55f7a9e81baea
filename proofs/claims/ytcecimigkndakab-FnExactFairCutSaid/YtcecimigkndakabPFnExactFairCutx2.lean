-- Written by a program of this session (wip/tools/pp.sh) out of the translation; Lean checks it.
import Derived.Test.YtcecimigkndakabPFnExactFairCutx1
namespace Go.Proofs.Ytcecimigkndakab.PFnExactFairCut
open Go.RowKit Go.Proofs.YtcecimigkndakabOwn Go.Proofs.YtcecimigkndakabW.PrintWords Go.Proofs.YtcecimigkndakabW.PrintLast Go.Proofs.YtcecimigkndakabW.PrintMore
attribute [local go_sem] max2_int min2_int max_two min_two max_three min_three max_four min_four   -- for this text's walks alone
set_option linter.unusedVariables false
set_option maxHeartbeats 8000000
set_option maxRecDepth 100000
set_option linter.unusedSimpArgs false

/-! ### spec_ckPieces: function 41 -/
mutual
def spec_ckPieces.l0 : Nat→List Int→List Int→Int→List Int→Int→Int→Option (List Int)
 | 0,_,_,_,_,_,_=>none
 | k + 1,x1,x7,x8,x14,x15,x16=>if x16 < x15 then (if 0 ≤ x16 then (if x16 < (x14.length : Int) then (spec_ckPieces.l1 k x1 x7 x8 x16 (rd x14 x16) x14 x15 x16) else (none)) else (none)) else (some x7)
def spec_ckPieces.l1 : Nat→List Int→List Int→Int→Int→Int→List Int→Int→Int→Option (List Int)
 | 0,_,_,_,_,_,_,_,_=>none
 | k + 1,x1,x7,x8,x9,x10,x14,x15,x16=>if x10 > 0 then (if 0 ≤ x9 then (if x9 < (x7.length : Int) then (if 0 ≤ x8 then (if x8 < (x1.length : Int) then (spec_ckPieces.l1 k x1 (x7.set (x9 : Int).toNat (wrap64 ((rd x7 x9) + (rd x1 x8)))) (wrap64 (x8 + 1)) x9 (wrap64 (x10 - 1)) x14 x15 x16) else (none)) else (none)) else (none)) else (none)) else (spec_ckPieces.l0 k x1 x7 x8 x14 x15 (wrap64 (x16 + 1)))
end
def spec_ckPieces.f (k : Nat) (a0 : Int) (l1 : List Int) (a2 : Int) : Option (List Int):=(spec_meAt.f k a0 a2).bind fun t120=>(spec_ckPieces.l0 k l1 (([0,0,0] : List Int)) 0 t120 (t120.length : Int) 0)
theorem spec_ckPieces.mono_l : ∀ k,(∀ y0 y1 y2 y3 y4 y5,LeO (spec_ckPieces.l0 k y0 y1 y2 y3 y4 y5) (spec_ckPieces.l0 (k + 1) y0 y1 y2 y3 y4 y5))∧(∀ y0 y1 y2 y3 y4 y5 y6 y7,LeO (spec_ckPieces.l1 k y0 y1 y2 y3 y4 y5 y6 y7) (spec_ckPieces.l1 (k + 1) y0 y1 y2 y3 y4 y5 y6 y7))
 | 0=>⟨fun _ _ _ _ _ _=>LZ,fun _ _ _ _ _ _ _ _=>LZ⟩
 | k + 1=>by
  obtain ⟨ih0,ih1⟩:=spec_ckPieces.mono_l k
  have m0:=@spec_meAt.mono
  refine ⟨?_,?_⟩ <;> intros
  all_goals (first|unfold spec_ckPieces.l0|unfold spec_ckPieces.l1)
  all_goals exact MO
theorem spec_ckPieces.mono : ∀ a0 a1 a2 k,LeO (spec_ckPieces.f k a0 a1 a2) (spec_ckPieces.f (k + 1) a0 a1 a2):=by
 intro a0 a1 a2 k;obtain ⟨ih0,ih1⟩:=spec_ckPieces.mono_l k;unfold spec_ckPieces.f
 have m0:=@spec_meAt.mono
 exact MO
def spec_ckPieces.T8 : Bool × List (List Nat × List Nat):=(true,[([],[]),([],[]),([0,1],[0,1]),([2],[2]),([],[]),([],[]),([4,5],[4,5]),([6],[6]),([3,7],[3,7]),([0,1,0,1,2,3,4,5,6,7,8],[0,1]),([9,8,0,1,2,3,4,5,6,7,8],[8,9])])
def spec_ckPieces.B8 : List Nat:=[0,0,3,7,0,0,48,112,255,511,1023]
theorem spec_ckPieces.tab8 : rtab .any (opsOf Try.f41 8) = spec_ckPieces.T8:=by kernel_rfl
theorem spec_ckPieces.bits8 : waitsOk spec_ckPieces.T8.2 spec_ckPieces.B8 = true:=by kernel_rfl
theorem spec_ckPieces.calls (k : Nat) (a0 : Int) (A1 : Option Addr) (c1 : Nat) (l1 : List Int) (a2 : Int) (r : List Int) (w : World) (hr1 : Kd.C (Kd.int .i64) w A1 l1.length l1) (hc1 : l1.length ≤ c1) (h : spec_ckPieces.f k a0 l1 a2 = some r) :
  Calls Try.prog 41 #[.int .i64 a0,.slice A1 l1.length c1,.int .i64 a2] w fun e w'=>∃ v0_ : Value,e = .returned (v0_)∧Kd.R (Kd.int .i64) 3 w' w.heap.size (fun _=>True) v0_ r∧Below w.heap.size w w':=by
 have HR1:=AM hr1;have HC1:=AM hc1;clear hr1 hc1;have HB:=HRf w;have H : ((spec_meAt.f k a0 a2).bind fun t120=>(spec_ckPieces.l0 k l1 (([0,0,0] : List Int)) 0 t120 (t120.length : Int) 0)) = some r:=h;clear h;obtain ⟨y117,hy117⟩ : ∃ y_ : List Int,y_ = (([0,0,0] : List Int)):=⟨_,rfl⟩;replace H : ((spec_meAt.f k a0 a2).bind fun t120=>(spec_ckPieces.l0 k l1 y117 0 t120 (t120.length : Int) 0)) = some r:=HY H hy117;have Ny117:=AM hy117;clear hy117;replace H:=EA H;obtain ⟨t120,A4,H⟩:=H;have H':=AM H;clear H;go_enter Try.func41,Try.ntmps41;go_wp2_with (first|((with_reducible refine gate_dst (N:=11) rfl ?_);refine Kd.R_lit (Kd.int .i64) _ 3 ?hg (N:=11) ?hd (xs:=([0,0,0] : List Int)) (inner:=[.int .i64 0,.int .i64 0,.int .i64 0]) (ok:=fun _=>True) (okp:=fun _=>True) ?hr ?hp (fun _ hk=>hk) trivial (Below.refl _ _) (Nat.le_refl _) (by simp) ?_;(case hd=>rfl);(case hg=>rfl);(case hr=>exact GS);(case hp=>exact (Reps.one (show Kd.M (Kd.int .i64) _ _ _ 0 [.int .i64 0] from rfl) (Reps.one (show Kd.M (Kd.int .i64) _ _ _ 0 [.int .i64 0] from rfl) (Reps.one (show Kd.M (Kd.int .i64) _ _ _ 0 [.int .i64 0] from rfl) (Reps.none _ _)))));intro v118 w5 ho6 hb hg_ hnew_;clear hg_ hnew_;(first|rw [← Ny117.out] at ho6|(simp only [Int.reduceToNat] at ho6;rw [← Ny117.out] at ho6));have HO119:=AM (Kd.R_lower ho6 (BZ BB));replace HB:=HS hb;clear hb ho6)|(refine GC 34 ?_;refine GM (some 14) Try.func34 (spec_meAt.calls k a0 a2 t120 _ A4.out) ?_;rintro e w7 ⟨v121,rfl,ho0,hb⟩;refine ⟨_,rfl,?_⟩;have HO122:=AM (Kd.R_lower (Kd.R_new' ho0 (Kd.R_lt (KR HO119))) (BZ BB));replace HO119:=RO HO119 ho0 hb;replace HB:=HS hb;try clear hb ho0;obtain ⟨Ao8,co8,eo8⟩:=Kd.R_slice HO122.out;subst eo8));go_loopg [8,16] k (fun kq v8 v16 w'=>∃ (x7_1 : List Int) (x8_1 : Int) (x16_1 : Int),v8 = .int .i64 x8_1∧v16 = .int .i64 x16_1∧Aside0 (spec_ckPieces.l0 kq l1 x7_1 x8_1 t120 (t120.length : Int) x16_1 = some r)∧Aside0 (kq ≤ k)∧Aside0 (Kd.R (Kd.int .i64) 3 w' w.heap.size (fun k_=>some k_≠((.slice Ao8 t120.length co8) : Value).ownBlock) v118 x7_1)∧Aside0 (Kd.R (Kd.int .i64) 3 w' w.heap.size (fun k_=>some k_≠(v118 : Value).ownBlock) (.slice Ao8 t120.length co8) t120)∧Aside0 (Below w.heap.size w w'))
 case atStart=>exact ⟨(y117),(0),(0),RF,RF,H',⟨Nat.le_refl _⟩,⟨by (with_reducible repeat (first|apply Kd.R_alloc|apply Kd.R_drewN|apply Kd.R_drew));exact Kd.R_mono HO119.out (fun _ hk=>hk.2)⟩,⟨by (with_reducible repeat (first|apply Kd.R_alloc|apply Kd.R_drewN|apply Kd.R_drew));exact Kd.R_mono HO122.out (fun _ hk=>hk.2)⟩,⟨BB⟩⟩
 case round =>
  clear H';try clear c1
  try clear p2
  try clear c3
  try clear c4
  try clear p6
  obtain ⟨x7_1,x8_1,x16_1,rfl,rfl,HA,HK1,HO_7,HO_14,HB⟩:=hrel;cases gk with
  | zero=>exact absurd HA.out (by simp [spec_ckPieces.l0])
  | succ k1 =>
   have H:=HA.out;clear HA;simp only [spec_ckPieces.l0] at H;by_cases c9 : x16_1 < (t120.length : Int)
   ·rw [if_pos c9] at H;have c9b0:=DT c9;clear c9;replace H:=IC H;obtain ⟨c10,H⟩:=H;have c10b0:=DT c10;clear c10;replace H:=IC H;obtain ⟨c11,H⟩:=H;have c11b0:=DT c11;clear c11;have H':=AM H;clear H;have p123 : 0 ≤ (x16_1 : Int):=OD AS;have q123 : x16_1 < (t120.length : Int):=OD AS;obtain ⟨ad123,e123,hx123_0⟩:=Kd.at_int (Kd.R_reads' HO_14.out).2.2 x16_1 p123 q123;cases e123;replace p123:=ET p123;replace q123:=ET q123;go_wp2;go_loopg [8,10] k1 (fun kq v8 v10 w'=>∃ (x7_2 : List Int) (x8_2 : Int) (x10_2 : Int),v8 = .int .i64 x8_2∧v10 = .int .i64 x10_2∧Aside0 (spec_ckPieces.l1 kq l1 x7_2 x8_2 x16_1 x10_2 t120 (t120.length : Int) x16_1 = some r)∧Aside0 (kq ≤ k1)∧Aside0 (Kd.R (Kd.int .i64) 3 w' w.heap.size (fun k_=>some k_≠((.slice (some ad123) t120.length co8) : Value).ownBlock) v118 x7_2)∧Aside0 (Kd.R (Kd.int .i64) 3 w' w.heap.size (fun k_=>some k_≠(v118 : Value).ownBlock) (.slice (some ad123) t120.length co8) t120)∧Aside0 (Below w.heap.size w w'))
    case atStart=>exact ⟨(x7_1),(x8_1),(rd t120 x16_1),RF,RF,H',⟨Nat.le_refl _⟩,⟨KR HO_7⟩,⟨KR HO_14⟩,⟨BB⟩⟩
    case round =>
     clear H';try clear c1
     try clear p1
     try clear q1
     try clear hx1
     try clear p2
     try clear c3
     try clear c4
     try clear p6
     try clear c9
     try clear c9b0
     try clear c10
     try clear c10b0
     try clear c11
     try clear c11b0
     try clear hx123_0
     try clear p123
     try clear p2
     try clear p6
     try clear q123
     obtain ⟨x7_2,x8_2,x10_2,rfl,rfl,HA,HK2,HO_7,HO_14,HB⟩:=hrel;cases gk with
     | zero=>exact absurd HA.out (by simp [spec_ckPieces.l1])
     | succ k2 =>
      have H:=HA.out;clear HA;simp only [spec_ckPieces.l1] at H;by_cases c12 : x10_2 > 0
      ·rw [if_pos c12] at H;have c12b0:=DT c12;clear c12;replace H:=IC H;obtain ⟨c13,H⟩:=H;have c13b0:=DT c13;clear c13;replace H:=IC H;obtain ⟨c14,H⟩:=H;have c14b0:=DT c14;clear c14;replace H:=IC H;obtain ⟨c15,H⟩:=H;have c15b0:=DT c15;clear c15;replace H:=IC H;obtain ⟨c16,H⟩:=H;have c16b0:=DT c16;clear c16;obtain ⟨y126,hy126⟩ : ∃ y_ : List Int,y_ = (x7_2.set (x16_1 : Int).toNat (wrap64 ((rd x7_2 x16_1) + (rd l1 x8_2)))):=⟨_,rfl⟩;replace H : (spec_ckPieces.l1 k2 l1 y126 (wrap64 (x8_2 + 1)) x16_1 (wrap64 (x10_2 - 1)) t120 (t120.length : Int) x16_1) = some r:=HY H hy126;have Ny126:=AM hy126;clear hy126;have H':=AM H;clear H;try go_wp2
       replace HO_7:=AM (Kd.R_drew HO_7.out);replace HO_14:=AM (Kd.R_drew HO_14.out);replace HB:=AM (below_drew1 HB.out);obtain ⟨Ao19,co19,eo19⟩:=Kd.R_slice HO_7.out
       (first|subst eo19|(injection eo19 with f1_ f2_ f3_;have f4_:=f1_.symm;have f5_:=f3_.symm;clear f1_ f2_ f3_;subst f4_;subst f5_));have p124 : 0 ≤ (x16_1 : Int):=OD AS;have q124 : x16_1 < (x7_2.length : Int):=OD AS;obtain ⟨ad124,e124,hx124_0⟩:=Kd.at_int (Kd.R_reads' HO_7.out).2.2 x16_1 p124 q124;cases e124;replace p124:=ET p124;replace q124:=ET q124;have p125 : 0 ≤ (x8_2 : Int):=OD AS;have q125 : x8_2 < (l1.length : Int):=OD AS;obtain ⟨ad125,e125,hx125_0⟩:=Kd.at_int HR1.out x8_2 p125 q125;have hw125_0:=hx125_0;cases e125;try (replace hx125_0:=LC hx125_0)
       replace p125:=ET p125;replace q125:=ET q125;have p17 : 0 ≤ (x16_1 : Int):=OD AS;have q17 : (x16_1 : Int) < ((x7_2.length : Int) : Int):=OD AS;obtain ⟨go17,co17,eo17,gb17,gl17,cl17,HG17⟩:=Kd.R_form HO_7.out (by omega)
       (first|cases eo17|(injection eo17 with ea_ en_ ec_;(first|subst ea_|(injection ea_ with ea_;subst ea_));subst ec_;clear en_));have GB17:=AM gb17;have GG17:=AM HG17;clear gb17 gl17 HG17
       (first|simp only [add_plain] at hx124_0|skip);obtain ⟨hx17_0,hf17_0⟩:=Kd.R_celln 0 HO_7.out (x16_1 : Int) p17 q17;replace p17:=ET p17;replace q17:=ET q17;have HP20:=Kd.R_putn HO_7.out (x16_1 : Int) (wrap64 ((rd x7_2 x16_1) + (rd l1 x8_2)));rw [← Ny126.out] at HP20;have HQ20:=AM HP20;clear HP20;refine PSt (n:=11) (S:=fun w'=>w'.cell? ⟨go17,(x16_1).toNat,none⟩ = some (.int .i64 (rd x7_2 x16_1))∧w'.cell? (ad125.add (x8_2).toNat) = some (.int .i64 (rd l1 x8_2))) (ds:=[10]) ⟨hx124_0,LC hw125_0⟩ (fun hHeld=>?_);refine with_tabW spec_ckPieces.tab8 spec_ckPieces.bits8 (fun HT_ HW_=>?_);generalize wr.drew = w18 at HO_7 HO_14 HB GG17 HQ20 hf17_0 hx124_0 hx125_0 hx17_0 hHeld ⊢;refine PA 0 25 HT_ ?_;refine PA 1 26 HT_ ?_;refine PA 2 27 HT_ ?_;refine PA 4 29 HT_ ?_;refine PA 5 30 HT_ ?_;refine PA 6 31 HT_ ?_;refine PB 3 28 HT_ HW_ hHeld ?_;refine PB 7 32 HT_ HW_ hHeld ?_;refine PA 8 33 HT_ ?_;refine PA 9 34 HT_ ?_;refine last_ (i:=10) (N:=none) #[true,true,true,true,true,true,true,true,true,true,true] rfl rfl (one_of HT_.out (by kernel_rfl)) (by decide) (fun K hK=>?_);refine skip_ (w1:=?_) (by rfl) rfl ?_ ?_;rotate_left
       ·go_simp;rfl
       refine hK.out _ _ ?_;clear hK K;refine done_ (done_of HT_.out (by kernel_rfl)) ?_;try go_wp2
       go_roundg k2
       case measure=>have:=HK1.out;have:=HK2.out;omega
       case rel=>exact ⟨(y126),(wrap64 (x8_2 + 1)),(wrap64 (x10_2 - 1)),RF,RF,H',⟨by have:=HK1.out;have:=HK2.out;omega⟩,⟨KR HQ20⟩,⟨by (with_reducible repeat (first|apply Kd.R_alloc|apply Kd.R_drewN|apply Kd.R_drew));exact Kd.R_mono (Kd.R_far (p:=⟨go17,(x16_1 : Int).toNat,none⟩) (Kd.R_mono HO_14.out (fun k_ hk=>(⟨hk,fun e_=>hk (by rw [e_];rfl)⟩ : _∧k_≠go17))) (fun _ hk=>hk.2) (.int .i64 (wrap64 ((rd x7_2 x16_1) + (rd l1 x8_2))))) (fun _ hk=>hk.1)⟩,⟨by repeat (first|(with_reducible first|exact HB.out|apply below_alloc|apply pw_below_drewN|apply below_drew1|refine below_set ?_ GB17.out)|exact HB.out)⟩⟩
      ·rw [if_neg c12] at H;have c12b0:=DF c12;clear c12;have H':=AM H;clear H;go_wp2;go_roundg k2
       case measure=>have:=HK1.out;have:=HK2.out;omega
       case rel=>exact ⟨(x7_2),(x8_2),(wrap64 (x16_1 + 1)),RF,RF,H',⟨by have:=HK1.out;have:=HK2.out;omega⟩,⟨KR HO_7⟩,⟨KR HO_14⟩,⟨BB⟩⟩
   ·rw [if_neg c9] at H;have c9b0:=DF c9;clear c9;obtain rfl:=Option.some.inj H;go_wp2;go_ret;exact ⟨_,RE,by (with_reducible repeat (first|apply Kd.R_alloc|apply Kd.R_drewN|apply Kd.R_drew));exact Kd.R_mono HO_7.out (fun _ hk=>trivial),BB⟩

/-! ### spec_ckFavourite: function 28 -/
def spec_ckFavourite.l0 : Nat→List Int→Int→List Int→Int→Int→Option (Int)
 | 0,_,_,_,_,_=>none
 | k + 1,x7,x8,x17,x18,x19=>if x19 < x18 then (if 0 ≤ x19 then (if x19 < (x17.length : Int) then (if (rd x17 x19) > 0 then (if x8 < 0 then (spec_ckFavourite.l0 k x7 x19 x17 x18 (wrap64 (x19 + 1))) else (if x19 < (x7.length : Int) then (if 0 ≤ x8 then (if x8 < (x7.length : Int) then (if (rd x7 x19) > (rd x7 x8) then (spec_ckFavourite.l0 k x7 x19 x17 x18 (wrap64 (x19 + 1))) else (spec_ckFavourite.l0 k x7 x8 x17 x18 (wrap64 (x19 + 1)))) else (none)) else (none)) else (none))) else (spec_ckFavourite.l0 k x7 x8 x17 x18 (wrap64 (x19 + 1)))) else (none)) else (none)) else (some x8)
def spec_ckFavourite.f (k : Nat) (a0 : Int) (l1 : List Int) (a2 : Int) : Option (Int):=(spec_ckPieces.f k a0 l1 a2).bind fun t127=>((spec_meAt.f k a0 a2).bind fun t130=>(spec_ckFavourite.l0 k t127 (-1) t130 (t130.length : Int) 0))
theorem spec_ckFavourite.mono_l : ∀ k,(∀ y0 y1 y2 y3 y4,LeO (spec_ckFavourite.l0 k y0 y1 y2 y3 y4) (spec_ckFavourite.l0 (k + 1) y0 y1 y2 y3 y4))
 | 0=>fun _ _ _ _ _ r h=>by simp [spec_ckFavourite.l0] at h
 | k + 1=>by
  have ih0:=spec_ckFavourite.mono_l k
  ·intro y0 y1 y2 y3 y4
   unfold spec_ckFavourite.l0
   have m0:=@spec_ckPieces.mono
   have m1:=@spec_meAt.mono
   exact MO
theorem spec_ckFavourite.mono : ∀ a0 a1 a2 k,LeO (spec_ckFavourite.f k a0 a1 a2) (spec_ckFavourite.f (k + 1) a0 a1 a2):=by
 intro a0 a1 a2 k;have ih0:=spec_ckFavourite.mono_l k;unfold spec_ckFavourite.f
 have m0:=@spec_ckPieces.mono
 have m1:=@spec_meAt.mono
 exact MO
theorem spec_ckFavourite.calls (k : Nat) (a0 : Int) (A1 : Option Addr) (c1 : Nat) (l1 : List Int) (a2 : Int) (r : Int) (w : World) (hr1 : Kd.C (Kd.int .i64) w A1 l1.length l1) (hc1 : l1.length ≤ c1) (h : spec_ckFavourite.f k a0 l1 a2 = some r) :
  Calls Try.prog 28 #[.int .i64 a0,.slice A1 l1.length c1,.int .i64 a2] w fun e w'=>e = .returned (.int .i64 r)∧Below w.heap.size w w':=by
 have HR1:=AM hr1;have HC1:=AM hc1;clear hr1 hc1;have HB:=HRf w;have H : ((spec_ckPieces.f k a0 l1 a2).bind fun t127=>((spec_meAt.f k a0 a2).bind fun t130=>(spec_ckFavourite.l0 k t127 (-1) t130 (t130.length : Int) 0))) = some r:=h;clear h;replace H:=EA H;obtain ⟨t127,A4,H⟩:=H;replace H:=EA H;obtain ⟨t130,A5,H⟩:=H;have H':=AM H;clear H;go_enter Try.func28,Try.ntmps28;go_wp2_with (first|(go_at_call 41;(with_reducible refine (spec_ckPieces.calls k a0 _ _ l1 a2 t127 _ ?side1 ?side2 A4.out).mono ?_);(case side1=>exact CW HR1.out);(case side2=>exact HC1.out);rintro e w6 ⟨v128,rfl,ho0,hb⟩;have HO129:=AM (Kd.R_lower ho0 (BZ BB));replace HB:=HS hb;try clear hb ho0)|(go_at_call 34;(with_reducible refine (spec_meAt.calls k a0 a2 t130 _ A5.out).mono ?_);rintro e w7 ⟨v131,rfl,ho0,hb⟩;have HO132:=AM (Kd.R_lower (Kd.R_new' ho0 (Kd.R_lt (KR HO129))) (BZ BB));replace HO129:=RO HO129 ho0 hb;replace HB:=HS hb;try clear hb ho0;obtain ⟨Ao8,co8,eo8⟩:=Kd.R_slice HO132.out;subst eo8));repeat (go_quiet (first|(go_at_call 41;(with_reducible refine (spec_ckPieces.calls k a0 _ _ l1 a2 t127 _ ?side1 ?side2 A4.out).mono ?_);(case side1=>exact CW HR1.out);(case side2=>exact HC1.out);rintro e w6 ⟨v128,rfl,ho0,hb⟩;have HO129:=AM (Kd.R_lower ho0 (BZ BB));replace HB:=HS hb;try clear hb ho0)|(go_at_call 34;(with_reducible refine (spec_meAt.calls k a0 a2 t130 _ A5.out).mono ?_);rintro e w7 ⟨v131,rfl,ho0,hb⟩;have HO132:=AM (Kd.R_lower (Kd.R_new' ho0 (Kd.R_lt (KR HO129))) (BZ BB));replace HO129:=RO HO129 ho0 hb;replace HB:=HS hb;try clear hb ho0;obtain ⟨Ao8,co8,eo8⟩:=Kd.R_slice HO132.out;subst eo8));try go_wp2_with (first|(go_at_call 41;(with_reducible refine (spec_ckPieces.calls k a0 _ _ l1 a2 t127 _ (CW HR1.out) HC1.out A4.out).mono ?_);rintro e w6 ⟨v128,rfl,ho0,hb⟩;have HO129:=AM (Kd.R_lower ho0 (BZ BB));replace HB:=HS hb;try clear hb ho0)|(go_at_call 34;(with_reducible refine (spec_meAt.calls k a0 a2 t130 _ A5.out).mono ?_);rintro e w7 ⟨v131,rfl,ho0,hb⟩;have HO132:=AM (Kd.R_lower (Kd.R_new' ho0 (Kd.R_lt (KR HO129))) (BZ BB));replace HO129:=RO HO129 ho0 hb;replace HB:=HS hb;try clear hb ho0;obtain ⟨Ao8,co8,eo8⟩:=Kd.R_slice HO132.out;subst eo8)))
 go_loopg [8,19] k (fun kq v8 v19 w'=>∃ (x8_1 : Int) (x19_1 : Int),v8 = .int .i64 x8_1∧v19 = .int .i64 x19_1∧Aside0 (spec_ckFavourite.l0 kq t127 x8_1 t130 (t130.length : Int) x19_1 = some r)∧Aside0 (kq ≤ k)∧Aside0 (Kd.R (Kd.int .i64) 3 w' w.heap.size (fun k_=>some k_≠((.slice Ao8 t130.length co8) : Value).ownBlock) v128 t127)∧Aside0 (Kd.R (Kd.int .i64) 3 w' w.heap.size (fun k_=>some k_≠(v128 : Value).ownBlock) (.slice Ao8 t130.length co8) t130)∧Aside0 (Below w.heap.size w w'))
 case atStart=>exact ⟨((-1)),(0),RF,RF,H',⟨Nat.le_refl _⟩,⟨by (with_reducible repeat (first|apply Kd.R_alloc|apply Kd.R_drewN|apply Kd.R_drew));exact Kd.R_mono HO129.out (fun _ hk=>hk.2)⟩,⟨by (with_reducible repeat (first|apply Kd.R_alloc|apply Kd.R_drewN|apply Kd.R_drew));exact Kd.R_mono HO132.out (fun _ hk=>hk.2)⟩,⟨BB⟩⟩
 case round =>
  clear H';try clear c1
  try clear c2
  try clear p2
  try clear p6
  obtain ⟨x8_1,x19_1,rfl,rfl,HA,HK1,HO_7,HO_17,HB⟩:=hrel;cases gk with
  | zero=>exact absurd HA.out (by simp [spec_ckFavourite.l0])
  | succ k1 =>
   have H:=HA.out;clear HA;simp only [spec_ckFavourite.l0] at H;by_cases c9 : x19_1 < (t130.length : Int)
   ·rw [if_pos c9] at H;have c9b0:=DT c9;clear c9;replace H:=IC H;obtain ⟨c10,H⟩:=H;have c10b0:=DT c10;clear c10;replace H:=IC H;obtain ⟨c11,H⟩:=H;have c11b0:=DT c11;clear c11;by_cases c12 : (rd t130 x19_1) > 0
    ·rw [if_pos c12] at H;have c12b0:=DT c12;clear c12;by_cases c13 : x8_1 < 0
     ·rw [if_pos c13] at H;have c13b0:=DT c13;clear c13;have H':=AM H;clear H;have p133 : 0 ≤ (x19_1 : Int):=OD AS;have q133 : x19_1 < (t130.length : Int):=OD AS;obtain ⟨ad133,e133,hx133_0⟩:=Kd.at_int (Kd.R_reads' HO_17.out).2.2 x19_1 p133 q133;cases e133;replace p133:=ET p133;replace q133:=ET q133;go_wp2;repeat (go_quiet (fail);try go_wp2)
      go_roundg k1
      case measure=>have:=HK1.out;omega
      case rel=>exact ⟨(x19_1),(wrap64 (x19_1 + 1)),RF,RF,H',⟨by have:=HK1.out;omega⟩,⟨KR HO_7⟩,⟨KR HO_17⟩,⟨BB⟩⟩
     ·rw [if_neg c13] at H;have c13b0:=DF c13;clear c13;replace H:=IC H;obtain ⟨c14,H⟩:=H;have c14b0:=DT c14;clear c14;replace H:=IC H;obtain ⟨c15,H⟩:=H;have c15b0:=DT c15;clear c15;replace H:=IC H;obtain ⟨c16,H⟩:=H;have c16b0:=DT c16;clear c16;by_cases c17 : (rd t127 x19_1) > (rd t127 x8_1)
      ·rw [if_pos c17] at H;have c17b0:=DT c17;clear c17;have H':=AM H;clear H;have p133 : 0 ≤ (x19_1 : Int):=OD AS;have q133 : x19_1 < (t130.length : Int):=OD AS;obtain ⟨ad133,e133,hx133_0⟩:=Kd.at_int (Kd.R_reads' HO_17.out).2.2 x19_1 p133 q133;cases e133;replace p133:=ET p133;replace q133:=ET q133;obtain ⟨Ao18,co18,eo18⟩:=Kd.R_slice HO_7.out;subst eo18;have p134 : 0 ≤ (x19_1 : Int):=OD AS;have q134 : x19_1 < (t127.length : Int):=OD AS;obtain ⟨ad134,e134,hx134_0⟩:=Kd.at_int (Kd.R_reads' HO_7.out).2.2 x19_1 p134 q134;cases e134;replace p134:=ET p134;replace q134:=ET q134;have p135 : 0 ≤ (x8_1 : Int):=OD AS;have q135 : x8_1 < (t127.length : Int):=OD AS;obtain ⟨ad135,e135,hx135_0⟩:=Kd.at_int (Kd.R_reads' HO_7.out).2.2 x8_1 p135 q135;obtain rfl : ad134 = ad135:=(by injection e135);replace p135:=ET p135;replace q135:=ET q135;go_wp2;repeat (go_quiet (fail);try go_wp2)
       go_roundg k1
       case measure=>have:=HK1.out;omega
       case rel=>exact ⟨(x19_1),(wrap64 (x19_1 + 1)),RF,RF,H',⟨by have:=HK1.out;omega⟩,⟨KR HO_7⟩,⟨KR HO_17⟩,⟨BB⟩⟩
      ·rw [if_neg c17] at H;have c17b0:=DF c17;clear c17;have H':=AM H;clear H;have p133 : 0 ≤ (x19_1 : Int):=OD AS;have q133 : x19_1 < (t130.length : Int):=OD AS;obtain ⟨ad133,e133,hx133_0⟩:=Kd.at_int (Kd.R_reads' HO_17.out).2.2 x19_1 p133 q133;cases e133;replace p133:=ET p133;replace q133:=ET q133;obtain ⟨Ao19,co19,eo19⟩:=Kd.R_slice HO_7.out;subst eo19;have p134 : 0 ≤ (x19_1 : Int):=OD AS;have q134 : x19_1 < (t127.length : Int):=OD AS;obtain ⟨ad134,e134,hx134_0⟩:=Kd.at_int (Kd.R_reads' HO_7.out).2.2 x19_1 p134 q134;cases e134;replace p134:=ET p134;replace q134:=ET q134;have p135 : 0 ≤ (x8_1 : Int):=OD AS;have q135 : x8_1 < (t127.length : Int):=OD AS;obtain ⟨ad135,e135,hx135_0⟩:=Kd.at_int (Kd.R_reads' HO_7.out).2.2 x8_1 p135 q135;obtain rfl : ad134 = ad135:=(by injection e135);replace p135:=ET p135;replace q135:=ET q135;go_wp2;repeat (go_quiet (fail);try go_wp2)
       go_roundg k1
       case measure=>have:=HK1.out;omega
       case rel=>exact ⟨(x8_1),(wrap64 (x19_1 + 1)),RF,RF,H',⟨by have:=HK1.out;omega⟩,⟨KR HO_7⟩,⟨KR HO_17⟩,⟨BB⟩⟩
    ·rw [if_neg c12] at H;have c12b0:=DF c12;clear c12;have H':=AM H;clear H;have p133 : 0 ≤ (x19_1 : Int):=OD AS;have q133 : x19_1 < (t130.length : Int):=OD AS;obtain ⟨ad133,e133,hx133_0⟩:=Kd.at_int (Kd.R_reads' HO_17.out).2.2 x19_1 p133 q133;cases e133;replace p133:=ET p133;replace q133:=ET q133;go_wp2;repeat (go_quiet (fail);try go_wp2)
     go_roundg k1
     case measure=>have:=HK1.out;omega
     case rel=>exact ⟨(x8_1),(wrap64 (x19_1 + 1)),RF,RF,H',⟨by have:=HK1.out;omega⟩,⟨KR HO_7⟩,⟨KR HO_17⟩,⟨BB⟩⟩
   ·rw [if_neg c9] at H;have c9b0:=DF c9;clear c9;obtain rfl:=Option.some.inj H;go_wp2;repeat (go_quiet (fail);try go_wp2)
    go_ret;exact ⟨RE,BB⟩

/-! ### spec_ckLabels: function 15 -/
def spec_ckLabels.l0 : Nat→Int→List (List Int)→List Int→Int→Option (List Int)
 | 0,_,_,_,_=>none
 | k + 1,x0,x1,x5,x6=>(spec_meCount.f x0).bind fun t136=>(if x6 < t136 then ((spec_ckOwner.f k x0 x6).bind fun t137=>(if 0 ≤ t137 then (if t137 < (x1.length : Int) then ((spec_ckFavourite.f k x0 (rd_L1 x1 t137) x6).bind fun t139=>(if x5.length < 17592186044416 then (spec_ckLabels.l0 k x0 x1 (x5 ++ [t139]) (wrap64 (x6 + 1))) else (none))) else (none)) else (none))) else (some x5))
def spec_ckLabels.f (k : Nat) (a0 : Int) (l1 : List (List Int)) : Option (List Int):=spec_ckLabels.l0 k a0 l1 ([] : List Int) 0
theorem spec_ckLabels.mono_l : ∀ k,(∀ y0 y1 y2 y3,LeO (spec_ckLabels.l0 k y0 y1 y2 y3) (spec_ckLabels.l0 (k + 1) y0 y1 y2 y3))
 | 0=>fun _ _ _ _ r h=>by simp [spec_ckLabels.l0] at h
 | k + 1=>by
  have ih0:=spec_ckLabels.mono_l k
  ·intro y0 y1 y2 y3
   unfold spec_ckLabels.l0
   have m0:=@spec_ckFavourite.mono
   have m1:=@spec_ckOwner.mono
   exact MO
theorem spec_ckLabels.mono : ∀ a0 a1 k,LeO (spec_ckLabels.f k a0 a1) (spec_ckLabels.f (k + 1) a0 a1):=by
 intro a0 a1 k;have ih0:=spec_ckLabels.mono_l k;unfold spec_ckLabels.f
 have m0:=@spec_ckFavourite.mono
 have m1:=@spec_ckOwner.mono
 exact MO
theorem spec_ckLabels.calls (k : Nat) (a0 : Int) (A1 : Option Addr) (c1 : Nat) (l1 : List (List Int)) (r : List Int) (w : World) (hr1 : Kd.C (Kd.slice 3 (Kd.int .i64)) w A1 l1.length l1) (hc1 : l1.length ≤ c1) (h : spec_ckLabels.f k a0 l1 = some r) :
  Calls Try.prog 15 #[.int .i64 a0,.slice A1 l1.length c1] w fun e w'=>∃ v0_ : Value,e = .returned (v0_)∧Kd.R (Kd.int .i64) 3 w' w.heap.size (fun _=>True) v0_ r∧Below w.heap.size w w':=by
 have HR1:=AM hr1;have HC1:=AM hc1;clear hr1 hc1;have HB:=HRf w;have H : (spec_ckLabels.l0 k a0 l1 ([] : List Int) 0) = some r:=h;clear h;have H':=AM H;clear H;go_enter Try.func15,Try.ntmps15;go_wp2;go_loopg [5,6] k (fun kq v5 v6 w'=>∃ (x5_1 : List Int) (x6_1 : Int),v6 = .int .i64 x6_1∧Aside0 (spec_ckLabels.l0 kq a0 l1 x5_1 x6_1 = some r)∧Aside0 (kq ≤ k)∧Aside0 (Kd.R (Kd.int .i64) 3 w' w.heap.size (fun _=>True) v5 x5_1)∧Aside0 (Below w.heap.size w w'))
 case atStart=>exact ⟨(([] : List Int)),(0),RF,H',⟨Nat.le_refl _⟩,⟨by first|exact Kd.R_nil _ _ _ _ _|exact Kd.N_nil _ _ _ _ _|exact Kd.V_nil _ _ _ _ _|exact Kd.Q_nil _ _ _ _ _|exact Kd.S_nil _ _ _ _ _⟩,⟨BB⟩⟩
 case round =>
  clear H';try clear c1
  try clear p2
  obtain ⟨x5_1,x6_1,rfl,HA,HK1,HO_5,HB⟩:=hrel;cases gk with
  | zero=>exact absurd HA.out (by simp [spec_ckLabels.l0])
  | succ k1 =>
   have H:=HA.out;clear HA;simp only [spec_ckLabels.l0] at H;replace H:=EA H;obtain ⟨t136,A3,H⟩:=H;by_cases c4 : x6_1 < t136
   ·rw [if_pos c4] at H;have c4b0:=DT c4;clear c4;replace H:=EA H;obtain ⟨t137,A5,H⟩:=H;replace H:=IC H;obtain ⟨c6,H⟩:=H;have c6b0:=DT c6;clear c6;replace H:=IC H;obtain ⟨c7,H⟩:=H;have c7b0:=DT c7;clear c7;replace H:=EA H;obtain ⟨t139,A8,H⟩:=H;replace H:=IC H;obtain ⟨c9,H⟩:=H;have LMc9:=AM c9;clear c9;obtain ⟨y140,hy140⟩ : ∃ y_ : List Int,y_ = (x5_1 ++ [t139]):=⟨_,rfl⟩;replace H : (spec_ckLabels.l0 k1 a0 l1 y140 (wrap64 (x6_1 + 1))) = some r:=HY H hy140;have Ny140:=AM hy140;clear hy140;have H':=AM H;clear H;go_wp2_with (first|(refine GC 27 ?_;refine GM (some 9) Try.func27 (spec_meCount.calls a0 t136 _ A3.out) ?_;rintro e w' ⟨rfl,⟨nd,rfl⟩⟩;refine ⟨_,rfl,?_⟩)|(refine GC 18 ?_;refine GM (some 18) Try.func18 (spec_ckOwner.calls k1 a0 x6_1 t137 _ A5.out) ?_;rintro e w10 ⟨rfl,hb⟩;refine ⟨_,rfl,?_⟩;replace HO_5:=RB HO_5 hb;replace HB:=HS hb;try clear hb;have p138 : 0 ≤ (t137 : Int):=OD AS;have q138 : t137 < (l1.length : Int):=OD AS;obtain ⟨ad138,A138_0,c138_0,e138,hx138_0,hl138_0,hi138_0⟩:=at_L1 HR1.out t137 p138 q138;cases e138;replace hx138_0:=LC hx138_0;have HR138_0:=AM hi138_0;have HC138_0:=AM hl138_0;clear hi138_0 hl138_0;replace p138:=ET p138;replace q138:=ET q138)|(refine GC 28 ?_;refine GM (some 22) Try.func28 (spec_ckFavourite.calls k1 a0 _ _ (rd_L1 l1 t137) x6_1 t139 _ (CW (Kd.C_below HR138_0.out HB.out)) HC138_0.out A8.out) ?_;rintro e w11 ⟨rfl,hb⟩;refine ⟨_,rfl,?_⟩;replace HO_5:=RB HO_5 hb;replace HB:=HS hb;try clear hb)|((with_reducible refine gate_builtin (b:=.append) (xs:=#[.tmp 13,.tmp 23]) rfl ?_);at_builtin;refine Kd.R_append (Kd.int .i64) (w0:=w) w.heap.size rfl (.tmp 13) (.tmp 23) 24 3 (.int .i64 0) 8 rfl Try.underlying24 info3 rfl (by decide) (by omega) u5 x5_1 t139 [.int .i64 t139] (fun _=>True) (fun _=>False) rfl rfl ?aP (fun _ hk=>hk.elim) ?aF ?aO ?aB ?aS ?aL ?_;(case aP=>exact rfl);(case aB=>exact BB);(case aF=>exact (fun _ _=>trivial));(case aO=>exact (KR HO_5));(case aS=>exact (BZ BB));(case aL=>have:=LMc9.out;omega);intro v141 w12 ho hb hg hat;rw [← Ny140.out] at ho;replace HB:=AM hb;have HO142:=AM ho;clear HO_5;clear ho hb hg hat));go_roundg k1
    case measure=>have:=HK1.out;omega
    case rel=>exact ⟨(y140),(wrap64 (x6_1 + 1)),RF,H',⟨by have:=HK1.out;omega⟩,⟨KR HO142⟩,⟨BB⟩⟩
   ·rw [if_neg c4] at H;have c4b0:=DF c4;clear c4;obtain rfl:=Option.some.inj H;go_wp2_with (first|(refine GC 27 ?_;refine GM (some 9) Try.func27 (spec_meCount.calls a0 t136 _ A3.out) ?_;rintro e w' ⟨rfl,⟨nd,rfl⟩⟩;refine ⟨_,rfl,?_⟩));go_ret;exact ⟨_,RE,KR HO_5,BB⟩

/-! ### spec_l1Most: function 58 -/
def spec_l1Most.f (a0 : Int) (a1 : Int) : Option (Int):=if a0 > a1 then (some a0) else (some a1)
theorem spec_l1Most.calls (a0 : Int) (a1 : Int) (r : Int) (w : World) (h : spec_l1Most.f a0 a1 = some r) :
  Calls Try.prog 58 #[.int .i64 a0,.int .i64 a1] w fun e w'=>e = .returned (.int .i64 r)∧Drawn0 w w':=by
 have H : (if a0 > a1 then (some a0) else (some a1)) = some r:=h;clear h;by_cases c3 : a0 > a1
 ·rw [if_pos c3] at H;have c3b0:=DT c3;clear c3;obtain rfl:=Option.some.inj H;go_enter Try.func58,Try.ntmps58;go_wp2;go_ret;exact ⟨RF,DR⟩
 ·rw [if_neg c3] at H;have c3b0:=DF c3;clear c3;obtain rfl:=Option.some.inj H;go_enter Try.func58,Try.ntmps58;go_wp2;go_ret;exact ⟨RF,DR⟩

/-! ### spec_l1Abs: function 47 -/
def spec_l1Abs.f (a0 : Int) : Option (Int):=(spec_l1Most.f a0 (wrap64 (-a0))).bind fun t143=>(some t143)
theorem spec_l1Abs.calls (a0 : Int) (r : Int) (w : World) (h : spec_l1Abs.f a0 = some r) :
  Calls Try.prog 47 #[.int .i64 a0] w fun e w'=>e = .returned (.int .i64 r)∧Drawn0 w w':=by
 have H : ((spec_l1Most.f a0 (wrap64 (-a0))).bind fun t143=>(some t143)) = some r:=h;clear h;replace H:=EA H;obtain ⟨t143,A2,H⟩:=H;obtain rfl:=Option.some.inj H;go_enter Try.func47,Try.ntmps47;go_wp2_with (first|(refine GC 58 ?_;refine GM (some 6) Try.func58 (spec_l1Most.calls a0 (wrap64 (-a0)) t143 _ A2.out) ?_;rintro e w' ⟨rfl,⟨nd,rfl⟩⟩;refine ⟨_,rfl,?_⟩));go_ret;exact ⟨RF,DR⟩

/-! ### spec_meNear: function 33 -/
def spec_meNear.l0 : Nat→List Int→List Int→Int→Int→Int→Option (Bool)
 | 0,_,_,_,_,_=>none
 | k + 1,x7,x8,x9,x18,x19=>if x19 < x18 then (if 0 ≤ x19 then (if x19 < (x7.length : Int) then (if x19 < (x8.length : Int) then ((spec_l1Abs.f (wrap64 ((rd x7 x19) - (rd x8 x19)))).bind fun t152=>(if t152 > 1 then (some false) else (spec_meNear.l0 k x7 x8 (wrap64 (x9 + t152)) x18 (wrap64 (x19 + 1))))) else (none)) else (none)) else (none)) else (some (x9 == 2))
def spec_meNear.f (k : Nat) (a0 : Int) (a1 : Int) (a2 : Int) : Option (Bool):=(spec_meAt.f k a0 a1).bind fun t144=>((spec_meAt.f k a0 a2).bind fun t147=>(spec_meNear.l0 k t144 t147 0 (t144.length : Int) 0))
theorem spec_meNear.mono_l : ∀ k,(∀ y0 y1 y2 y3 y4,LeO (spec_meNear.l0 k y0 y1 y2 y3 y4) (spec_meNear.l0 (k + 1) y0 y1 y2 y3 y4))
 | 0=>fun _ _ _ _ _ r h=>by simp [spec_meNear.l0] at h
 | k + 1=>by
  have ih0:=spec_meNear.mono_l k
  ·intro y0 y1 y2 y3 y4
   unfold spec_meNear.l0
   have m0:=@spec_meAt.mono
   exact MO
theorem spec_meNear.mono : ∀ a0 a1 a2 k,LeO (spec_meNear.f k a0 a1 a2) (spec_meNear.f (k + 1) a0 a1 a2):=by
 intro a0 a1 a2 k;have ih0:=spec_meNear.mono_l k;unfold spec_meNear.f
 have m0:=@spec_meAt.mono
 exact MO
theorem spec_meNear.calls (k : Nat) (a0 : Int) (a1 : Int) (a2 : Int) (r : Bool) (w : World) (h : spec_meNear.f k a0 a1 a2 = some r) :
  Calls Try.prog 33 #[.int .i64 a0,.int .i64 a1,.int .i64 a2] w fun e w'=>e = .returned (.bool r)∧Below w.heap.size w w':=by
 have HB:=HRf w;have H : ((spec_meAt.f k a0 a1).bind fun t144=>((spec_meAt.f k a0 a2).bind fun t147=>(spec_meNear.l0 k t144 t147 0 (t144.length : Int) 0))) = some r:=h;clear h;replace H:=EA H;obtain ⟨t144,A4,H⟩:=H;replace H:=EA H;obtain ⟨t147,A5,H⟩:=H;have H':=AM H;clear H;go_enter Try.func33,Try.ntmps33;go_wp2_with (first|(go_at_call 34;(with_reducible refine (spec_meAt.calls k a0 a1 t144 _ A4.out).mono ?_);rintro e w6 ⟨v145,rfl,ho0,hb⟩;have HO146:=AM (Kd.R_lower ho0 (BZ BB));replace HB:=HS hb;try clear hb ho0)|(go_at_call 34;(with_reducible refine (spec_meAt.calls k a0 a2 t147 _ A5.out).mono ?_);rintro e w7 ⟨v148,rfl,ho0,hb⟩;have HO149:=AM (Kd.R_lower (Kd.R_new' ho0 (Kd.R_lt (KR HO146))) (BZ BB));replace HO146:=RO HO146 ho0 hb;replace HB:=HS hb;try clear hb ho0;obtain ⟨Ao8,co8,eo8⟩:=Kd.R_slice HO146.out;subst eo8));repeat (go_quiet (first|(go_at_call 34;(with_reducible refine (spec_meAt.calls k a0 a1 t144 _ A4.out).mono ?_);rintro e w6 ⟨v145,rfl,ho0,hb⟩;have HO146:=AM (Kd.R_lower ho0 (BZ BB));replace HB:=HS hb;try clear hb ho0)|(go_at_call 34;(with_reducible refine (spec_meAt.calls k a0 a2 t147 _ A5.out).mono ?_);rintro e w7 ⟨v148,rfl,ho0,hb⟩;have HO149:=AM (Kd.R_lower (Kd.R_new' ho0 (Kd.R_lt (KR HO146))) (BZ BB));replace HO146:=RO HO146 ho0 hb;replace HB:=HS hb;try clear hb ho0;obtain ⟨Ao8,co8,eo8⟩:=Kd.R_slice HO146.out;subst eo8));try go_wp2_with (first|(go_at_call 34;(with_reducible refine (spec_meAt.calls k a0 a1 t144 _ A4.out).mono ?_);rintro e w6 ⟨v145,rfl,ho0,hb⟩;have HO146:=AM (Kd.R_lower ho0 (BZ BB));replace HB:=HS hb;try clear hb ho0)|(go_at_call 34;(with_reducible refine (spec_meAt.calls k a0 a2 t147 _ A5.out).mono ?_);rintro e w7 ⟨v148,rfl,ho0,hb⟩;have HO149:=AM (Kd.R_lower (Kd.R_new' ho0 (Kd.R_lt (KR HO146))) (BZ BB));replace HO146:=RO HO146 ho0 hb;replace HB:=HS hb;try clear hb ho0;obtain ⟨Ao8,co8,eo8⟩:=Kd.R_slice HO146.out;subst eo8)))
 go_loopg [9,19] k (fun kq v9 v19 w'=>∃ (x9_1 : Int) (x19_1 : Int),v9 = .int .i64 x9_1∧v19 = .int .i64 x19_1∧Aside0 (spec_meNear.l0 kq t144 t147 x9_1 (t144.length : Int) x19_1 = some r)∧Aside0 (kq ≤ k)∧Aside0 (Kd.R (Kd.int .i64) 3 w' w.heap.size (fun k_=>some k_≠(v148 : Value).ownBlock) (.slice Ao8 t144.length co8) t144)∧Aside0 (Kd.R (Kd.int .i64) 3 w' w.heap.size (fun k_=>some k_≠((.slice Ao8 t144.length co8) : Value).ownBlock) v148 t147)∧Aside0 (Below w.heap.size w w'))
 case atStart=>exact ⟨(0),(0),RF,RF,H',⟨Nat.le_refl _⟩,⟨by (with_reducible repeat (first|apply Kd.R_alloc|apply Kd.R_drewN|apply Kd.R_drew));exact Kd.R_mono HO146.out (fun _ hk=>hk.2)⟩,⟨by (with_reducible repeat (first|apply Kd.R_alloc|apply Kd.R_drewN|apply Kd.R_drew));exact Kd.R_mono HO149.out (fun _ hk=>hk.2)⟩,⟨BB⟩⟩
 case round =>
  clear H';try clear p2
  try clear c3
  try clear p6
  obtain ⟨x9_1,x19_1,rfl,rfl,HA,HK1,HO_7,HO_8,HB⟩:=hrel;cases gk with
  | zero=>exact absurd HA.out (by simp [spec_meNear.l0])
  | succ k1 =>
   have H:=HA.out;clear HA;simp only [spec_meNear.l0] at H;by_cases c9 : x19_1 < (t144.length : Int)
   ·rw [if_pos c9] at H;have c9b0:=DT c9;clear c9;replace H:=IC H;obtain ⟨c10,H⟩:=H;have c10b0:=DT c10;clear c10;replace H:=IC H;obtain ⟨c11,H⟩:=H;have c11b0:=DT c11;clear c11;replace H:=IC H;obtain ⟨c12,H⟩:=H;have c12b0:=DT c12;clear c12;replace H:=EA H;obtain ⟨t152,A13,H⟩:=H;by_cases c14 : t152 > 1
    ·rw [if_pos c14] at H;have c14b0:=DT c14;clear c14;obtain rfl:=Option.some.inj H;have p150 : 0 ≤ (x19_1 : Int):=OD AS;have q150 : x19_1 < (t144.length : Int):=OD AS;obtain ⟨ad150,e150,hx150_0⟩:=Kd.at_int (Kd.R_reads' HO_7.out).2.2 x19_1 p150 q150;cases e150;replace p150:=ET p150;replace q150:=ET q150;obtain ⟨Ao15,co15,eo15⟩:=Kd.R_slice HO_8.out;subst eo15;have p151 : 0 ≤ (x19_1 : Int):=OD AS;have q151 : x19_1 < (t147.length : Int):=OD AS;obtain ⟨ad151,e151,hx151_0⟩:=Kd.at_int (Kd.R_reads' HO_8.out).2.2 x19_1 p151 q151;cases e151;replace p151:=ET p151;replace q151:=ET q151;go_wp2_with (first|(go_at_call 47;(with_reducible refine (spec_l1Abs.calls (wrap64 ((rd t144 x19_1) - (rd t147 x19_1))) t152 _ A13.out).mono ?_);rintro e w' ⟨rfl,⟨nd,rfl⟩⟩;(try exact DW)));repeat (go_quiet (first|(go_at_call 47;(with_reducible refine (spec_l1Abs.calls (wrap64 ((rd t144 x19_1) - (rd t147 x19_1))) t152 _ A13.out).mono ?_);rintro e w' ⟨rfl,⟨nd,rfl⟩⟩;(try exact DW)));try go_wp2_with (first|(go_at_call 47;(with_reducible refine (spec_l1Abs.calls (wrap64 ((rd t144 x19_1) - (rd t147 x19_1))) t152 _ A13.out).mono ?_);rintro e w' ⟨rfl,⟨nd,rfl⟩⟩;(try exact DW))))
     go_ret;exact ⟨RE,BB⟩
    ·rw [if_neg c14] at H;have c14b0:=DF c14;clear c14;have H':=AM H;clear H;have p150 : 0 ≤ (x19_1 : Int):=OD AS;have q150 : x19_1 < (t144.length : Int):=OD AS;obtain ⟨ad150,e150,hx150_0⟩:=Kd.at_int (Kd.R_reads' HO_7.out).2.2 x19_1 p150 q150;cases e150;replace p150:=ET p150;replace q150:=ET q150;obtain ⟨Ao16,co16,eo16⟩:=Kd.R_slice HO_8.out;subst eo16;have p151 : 0 ≤ (x19_1 : Int):=OD AS;have q151 : x19_1 < (t147.length : Int):=OD AS;obtain ⟨ad151,e151,hx151_0⟩:=Kd.at_int (Kd.R_reads' HO_8.out).2.2 x19_1 p151 q151;cases e151;replace p151:=ET p151;replace q151:=ET q151;go_wp2_with (first|(go_at_call 47;(with_reducible refine (spec_l1Abs.calls (wrap64 ((rd t144 x19_1) - (rd t147 x19_1))) t152 _ A13.out).mono ?_);rintro e w' ⟨rfl,⟨nd,rfl⟩⟩;exact DW)|(go_at_call 47;(with_reducible refine (spec_l1Abs.calls (wrap64 ((rd t144 x19_1) - (rd t147 x19_1))) t152 _ A13.out).mono ?_);rintro e w' ⟨rfl,⟨nd,rfl⟩⟩;have p153 : 0 ≤ (x19_1 : Int):=OD AS;have q153 : x19_1 < (t144.length : Int):=OD AS;obtain ⟨ad153,e153,hx153_0⟩:=Kd.at_int (Kd.R_reads' HO_7.out).2.2 x19_1 p153 q153;obtain rfl : ad150 = ad153:=(by injection e153);replace p153:=ET p153;replace q153:=ET q153;have p154 : 0 ≤ (x19_1 : Int):=OD AS;have q154 : x19_1 < (t147.length : Int):=OD AS;obtain ⟨ad154,e154,hx154_0⟩:=Kd.at_int (Kd.R_reads' HO_8.out).2.2 x19_1 p154 q154;obtain rfl : ad151 = ad154:=(by injection e154);replace p154:=ET p154;replace q154:=ET q154));repeat (go_quiet (first|(go_at_call 47;(with_reducible refine (spec_l1Abs.calls (wrap64 ((rd t144 x19_1) - (rd t147 x19_1))) t152 _ A13.out).mono ?_);rintro e w' ⟨rfl,⟨nd,rfl⟩⟩;exact DW)|(go_at_call 47;(with_reducible refine (spec_l1Abs.calls (wrap64 ((rd t144 x19_1) - (rd t147 x19_1))) t152 _ A13.out).mono ?_);rintro e w' ⟨rfl,⟨nd,rfl⟩⟩;have p153 : 0 ≤ (x19_1 : Int):=OD AS;have q153 : x19_1 < (t144.length : Int):=OD AS;obtain ⟨ad153,e153,hx153_0⟩:=Kd.at_int (Kd.R_reads' HO_7.out).2.2 x19_1 p153 q153;obtain rfl : ad150 = ad153:=(by injection e153);replace p153:=ET p153;replace q153:=ET q153;have p154 : 0 ≤ (x19_1 : Int):=OD AS;have q154 : x19_1 < (t147.length : Int):=OD AS;obtain ⟨ad154,e154,hx154_0⟩:=Kd.at_int (Kd.R_reads' HO_8.out).2.2 x19_1 p154 q154;obtain rfl : ad151 = ad154:=(by injection e154);replace p154:=ET p154;replace q154:=ET q154));try go_wp2_with (first|(go_at_call 47;(with_reducible refine (spec_l1Abs.calls (wrap64 ((rd t144 x19_1) - (rd t147 x19_1))) t152 _ A13.out).mono ?_);rintro e w' ⟨rfl,⟨nd,rfl⟩⟩;exact DW)|(go_at_call 47;(with_reducible refine (spec_l1Abs.calls (wrap64 ((rd t144 x19_1) - (rd t147 x19_1))) t152 _ A13.out).mono ?_);rintro e w' ⟨rfl,⟨nd,rfl⟩⟩;have p153 : 0 ≤ (x19_1 : Int):=OD AS;have q153 : x19_1 < (t144.length : Int):=OD AS;obtain ⟨ad153,e153,hx153_0⟩:=Kd.at_int (Kd.R_reads' HO_7.out).2.2 x19_1 p153 q153;obtain rfl : ad150 = ad153:=(by injection e153);replace p153:=ET p153;replace q153:=ET q153;have p154 : 0 ≤ (x19_1 : Int):=OD AS;have q154 : x19_1 < (t147.length : Int):=OD AS;obtain ⟨ad154,e154,hx154_0⟩:=Kd.at_int (Kd.R_reads' HO_8.out).2.2 x19_1 p154 q154;obtain rfl : ad151 = ad154:=(by injection e154);replace p154:=ET p154;replace q154:=ET q154)))
     go_roundg k1
     case measure=>have:=HK1.out;omega
     case rel=>exact ⟨(wrap64 (x9_1 + t152)),(wrap64 (x19_1 + 1)),RF,RF,H',⟨by have:=HK1.out;omega⟩,⟨KR HO_7⟩,⟨KR HO_8⟩,⟨BB⟩⟩
   ·rw [if_neg c9] at H;have c9b0:=DF c9;clear c9;obtain rfl:=Option.some.inj H;go_wp2;repeat (go_quiet (fail);try go_wp2)
    go_ret;exact ⟨RE,BB⟩

end Go.Proofs.Ytcecimigkndakab.PFnExactFairCut
