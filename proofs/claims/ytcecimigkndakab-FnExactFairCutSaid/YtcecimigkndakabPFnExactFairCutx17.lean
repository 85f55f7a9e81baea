-- Written by a program of this session (wip/tools/pp.sh) out of the translation; Lean checks it.
import Derived.Test.YtcecimigkndakabPFnExactFairCutx16
namespace Go.Proofs.Ytcecimigkndakab.PFnExactFairCut
open Go.RowKit Go.Proofs.YtcecimigkndakabOwn Go.Proofs.YtcecimigkndakabW.PrintWords Go.Proofs.YtcecimigkndakabW.PrintLast Go.Proofs.YtcecimigkndakabW.PrintMore
attribute [local go_sem] max2_int min2_int max_two min_two max_three min_three max_four min_four   -- for this text's walks alone
set_option linter.unusedVariables false
set_option maxHeartbeats 8000000
set_option maxRecDepth 100000
set_option linter.unusedSimpArgs false

/-! ### impl_piecesOf: function 39 -/
def impl_piecesOf.f (k : Nat) (l0 : List Int) (a1_0 : Int) (a1_1 : Int) (a1_2 : Int) : Option (List Int):=if 0 ≤ a1_0 then (if a1_0 ≤ (l0.length : Int) then ((impl_sum.f k (l0.take (a1_0 : Int).toNat)).bind fun t494=>(if a1_0 ≤ (wrap64 (a1_0 + a1_1)) then (if (wrap64 (a1_0 + a1_1)) ≤ (l0.length : Int) then ((impl_sum.f k ((l0.take ((wrap64 (a1_0 + a1_1)) : Int).toNat).drop (a1_0 : Int).toNat)).bind fun t496=>(if 0 ≤ (wrap64 (a1_0 + a1_1)) then ((impl_sum.f k (l0.drop ((wrap64 (a1_0 + a1_1)) : Int).toNat)).bind fun t498=>(some (([t494,t496,t498] : List Int)))) else (none))) else (none)) else (none))) else (none)) else (none)
theorem impl_piecesOf.mono : ∀ a0 a1 a2 a3 k,LeO (impl_piecesOf.f k a0 a1 a2 a3) (impl_piecesOf.f (k + 1) a0 a1 a2 a3):=by
 intro a0 a1 a2 a3 k;unfold impl_piecesOf.f
 have m0:=@impl_sum.mono
 exact MO
def impl_piecesOf.T1 : Bool × List (List Nat × List Nat):=(true,[([],[]),([],[]),([1],[1]),([0,2],[0,2]),([3],[3]),([],[]),([],[]),([6],[6]),([],[]),([8],[8]),([],[]),([10],[10]),([9,11],[9,11]),([5,7,12],[5,7,12]),([13,4],[13]),([],[]),([],[]),([16],[16]),([],[]),([18],[18]),([17,19],[17,19]),([15,20],[15,20]),([21,14],[21]),([4,14,22],[4,14,22]),([23,22,0,1,2,3,4,5,6,7,8,9,10,11,12,13,14,15,16,17,18,19,20,21,22,23],[23])])
def impl_piecesOf.B1 : List Nat:=[0,0,2,7,15,0,0,64,0,256,0,1024,3840,8160,16383,0,0,65536,0,262144,983040,2064384,4194303,8388607,16777215]
theorem impl_piecesOf.tab1 : rtab .any (opsOf Try.f39 1) = impl_piecesOf.T1:=by kernel_rfl
theorem impl_piecesOf.bits1 : waitsOk impl_piecesOf.T1.2 impl_piecesOf.B1 = true:=by kernel_rfl
theorem impl_piecesOf.calls (k : Nat) (A0 : Option Addr) (c0 : Nat) (l0 : List Int) (a1_0 : Int) (a1_1 : Int) (a1_2 : Int) (r : List Int) (w : World) (hr0 : Kd.C (Kd.int .i64) w A0 l0.length l0) (hc0 : l0.length ≤ c0) (h : impl_piecesOf.f k l0 a1_0 a1_1 a1_2 = some r) :
  Calls Try.prog 39 #[.slice A0 l0.length c0,.agg #[.int .i64 a1_0,.int .i64 a1_1,.int .i64 a1_2]] w fun e w'=>∃ v0_ : Value,e = .returned (v0_)∧Kd.R (Kd.int .i64) 3 w' w.heap.size (fun _=>True) v0_ r∧Below w.heap.size w w':=by
 have hu42:=Try.underlying42;have HR0:=AM hr0;have HC0:=AM hc0;clear hr0 hc0;have HB:=HRf w;have H : (if 0 ≤ a1_0 then (if a1_0 ≤ (l0.length : Int) then ((impl_sum.f k (l0.take (a1_0 : Int).toNat)).bind fun t494=>(if a1_0 ≤ (wrap64 (a1_0 + a1_1)) then (if (wrap64 (a1_0 + a1_1)) ≤ (l0.length : Int) then ((impl_sum.f k ((l0.take ((wrap64 (a1_0 + a1_1)) : Int).toNat).drop (a1_0 : Int).toNat)).bind fun t496=>(if 0 ≤ (wrap64 (a1_0 + a1_1)) then ((impl_sum.f k (l0.drop ((wrap64 (a1_0 + a1_1)) : Int).toNat)).bind fun t498=>(some (([t494,t496,t498] : List Int)))) else (none))) else (none)) else (none))) else (none)) else (none)) = some r:=h;clear h;replace H:=IC H;obtain ⟨c3,H⟩:=H;have c3b0:=ET c3;have c3b1:=DT c3;clear c3;replace H:=IC H;obtain ⟨c4,H⟩:=H;have c4b0:=ET c4;have c4b1:=DT c4;clear c4;replace H:=EA H;obtain ⟨t494,A5,H⟩:=H;have c6b0:=ET (OD AS : 0 ≤ a1_0);replace H:=IC H;obtain ⟨c7,H⟩:=H;have c7b0:=ET c7;have c7b1:=DT c7;replace H:=IC H;obtain ⟨c8,H⟩:=H;have c8b0:=ET c8;have c8b1:=DT c8;replace H:=EA H;obtain ⟨t496,A9,H⟩:=H;obtain ⟨ji10,hji10⟩ : ∃ j_ : Int,(wrap64 (a1_0 + a1_1)) = j_:=⟨_,rfl⟩;replace H : (if 0 ≤ (ji10) then ((impl_sum.f k (l0.drop ((ji10) : Int).toNat)).bind fun t498=>(some (([t494,t496,t498] : List Int)))) else (none)) = some r:=by first|(rw [hji10] at H;exact H)|(simp only [hji10] at H ⊢;exact H)
 (try rw [hji10] at c7b0)
 (try rw [hji10] at c7b1)
 (try rw [hji10] at c7)
 (try rw [hji10] at c8b0)
 (try rw [hji10] at c8b1)
 (try rw [hji10] at c8)
 (try rw [hji10] at A5)
 (try rw [hji10] at A9);have hji10w : (IntKind.i64.wrap (a1_0 + a1_1)) = ji10:=(i64_w _).trans hji10;replace H:=IC H;obtain ⟨c11,H⟩:=H;have c11b0:=ET c11;have c11b1:=DT c11;clear c11;have c12b0:=ET (OD AS : (ji10) ≤ (l0.length : Int));replace H:=EA H;obtain ⟨t498,A13,H⟩:=H;obtain ⟨y499,hy499⟩ : ∃ y_ : List Int,y_ = (([t494,t496,t498] : List Int)):=⟨_,rfl⟩;replace H : (some y499) = some r:=HY H hy499;have Ny499:=AM hy499;clear hy499;obtain rfl:=Option.some.inj H;go_enter Try.func39,Try.ntmps39;try go_wp2_with (first|((with_reducible refine gate_dst (N:=3) rfl ?_);refine box_event ?hg (N:=3) ?hd (cs:=#[.int .i64 a1_0,.int .i64 a1_1,.int .i64 a1_2]) (t:=42) ?hr ?_;(case hd=>rfl);(case hg=>rfl);(case hr=>exact GS);intro gb492 hg w14 hbox hb;have BK492:=AM hbox;have GW492:=AM ((by rw [hg];exact (BZ BB) : w.heap.size ≤ gb492));have GE492:=AM ((by rw [hg];exact (BZ BB) : w.heap.size ≤ gb492));replace HB:=HS hb;clear hb hbox hg))
 replace BK492:=AM (blk_drew BK492.out);replace HB:=AM (below_drew1 HB.out);obtain ⟨i016,hi016,_,hsz16,_⟩:=info_parts info3;obtain ⟨hcut16,hA16,hC16⟩:=print_take_of (P:=Try.prog) (Value.int .i64) 0 24 3 .i64 Try.underlying24 hi016 hsz16 A0 c0 l0 a1_0 (OD AS) (OD AS) HC0.out;have HR493:=AM (Kd.C_of_reads (h1:=fun _=>rfl) (hA16 _ (Kd.reads_of_C HR0.out)));have HC493:=AM hC16;clear hA16 hC16 hi016 hsz16;obtain ⟨i017,hi017,_,hsz17,_⟩:=info_parts info3;obtain ⟨A17,hcut17,hA17,hC17⟩:=print_mid_of (P:=Try.prog) (Value.int .i64) 0 24 3 .i64 .i64 Try.underlying24 hi017 hsz17 A0 c0 l0 a1_0 (ji10) (OD AS) (by first|omega|exact OD AS) (OD AS) HC0.out;have HR495:=AM (Kd.C_of_reads (h1:=fun _=>rfl) (hA17 _ (Kd.reads_of_C HR0.out)));have HC495:=AM hC17;clear hA17 hC17 hi017 hsz17;obtain ⟨i018,hi018,_,hsz18,_⟩:=info_parts info3;obtain ⟨A18,hcut18,hA18,hC18⟩:=print_drop_of (P:=Try.prog) (Value.int .i64) 0 24 3 .i64 Try.underlying24 hi018 hsz18 A0 c0 l0 (ji10) (OD AS) (OD AS) HC0.out;have HR497:=AM (Kd.C_of_reads (h1:=fun _=>rfl) (hA18 _ (Kd.reads_of_C HR0.out)));have HC497:=AM hC18;clear hA18 hC18 hi018 hsz18;refine PSt (n:=25) (S:=fun w'=>w'.cell? ⟨gb492,0,none⟩ = some (.int .i64 a1_0)∧w'.cell? ⟨gb492,1,none⟩ = some (.int .i64 a1_1)∧w'.cell? ⟨gb492,2,none⟩ = some (.int .i64 a1_2)) (ds:=[]) ⟨(BC BK492.out 0).trans rfl,(BC BK492.out 1).trans rfl,(BC BK492.out 2).trans rfl⟩ (fun hHeld=>?_);refine with_tabW impl_piecesOf.tab1 impl_piecesOf.bits1 (fun HT_ HW_=>?_);generalize w14.drew = w15 at BK492 HB HR493 HR495 HR497 hHeld ⊢;refine PA 0 5 HT_ ?_;refine PA 1 6 HT_ ?_;refine PA 5 10 HT_ ?_;refine PA 6 11 HT_ ?_;refine PA 8 13 HT_ ?_;refine PA 10 15 HT_ ?_;refine PA 15 20 HT_ ?_;refine PA 16 21 HT_ ?_;refine PA 18 23 HT_ ?_;refine PB 2 7 HT_ HW_ hHeld ?_;refine PA 3 8 HT_ ?_;refine PB 7 12 HT_ HW_ hHeld ?_;refine PB 9 14 HT_ HW_ hHeld ?_;refine PB 11 16 HT_ HW_ hHeld ?_;refine PA 12 17 HT_ ?_;refine PA 13 18 HT_ ?_;refine PB 17 22 HT_ HW_ hHeld ?_;refine PB 19 24 HT_ HW_ hHeld ?_;refine PA 20 25 HT_ ?_;refine PA 21 26 HT_ ?_;refine PC 4 9 HT_ (fun K hK=>?_);refine goes_ Try.func53 (by kernel_rfl) rfl #[.slice A0 (l0.take (a1_0 : Int).toNat).length c0] (by rfl) rfl rfl (by (try simp only [List.map_toArray,List.map_cons,List.map_nil]);first|done|(rw [show (l0.take (a1_0 : Int).toNat).length = a1_0.toNat from (by rw [List.length_take];have h_ : (a1_0 : Int) ≤ (l0.length : Int):=OD AS;omega)] <;> rfl)|rfl|(simp only [List.length_drop,List.length_take];rfl)) ?_;with_reducible refine (impl_sum.calls k _ _ (l0.take (a1_0 : Int).toNat) t494 _ ?side1 ?side2 A5.out).mono ?_
 (case side1=>exact CW (Kd.C_below HR493.out HB.out))
 (case side2=>exact HC493.out);rintro e w' ⟨rfl,⟨nd,rfl⟩⟩;refine ⟨_,rfl,?_⟩;refine hK.out _ _ ⟨(BC BK492.out 0).trans rfl,(BC BK492.out 1).trans rfl,(BC BK492.out 2).trans rfl⟩ (fun hHeld=>?_);clear hK K;refine norm_ (a':=?_) ?_ ?_;rotate_left
 ·show Act.put _ (some 9) _ = _;simp only [Act.put,List.setIfInBounds_toArray,List.set_cons_zero,List.set_cons_succ,i64_w,i32_w];rfl
 refine PC 14 19 HT_ (fun K hK=>?_);refine goes_ Try.func53 (by kernel_rfl) rfl #[.slice A17 ((l0.take ((ji10) : Int).toNat).drop (a1_0 : Int).toNat).length (c0 - a1_0.toNat)] (by rfl) rfl rfl (by (try simp only [List.map_toArray,List.map_cons,List.map_nil]);first|done|(rw [show ((l0.take ((ji10) : Int).toNat).drop (a1_0 : Int).toNat).length = ((ji10).toNat - a1_0.toNat) from (by rw [List.length_drop,List.length_take];have h_ : ((ji10) : Int) ≤ (l0.length : Int):=OD AS;omega)] <;> rfl)|(simp only [hji10];rfl)|rfl|(simp only [List.length_drop,List.length_take];rfl)) ?_;with_reducible refine (impl_sum.calls k _ _ ((l0.take ((ji10) : Int).toNat).drop (a1_0 : Int).toNat) t496 _ ?side1 ?side2 A9.out).mono ?_
 (case side1=>repeat (first|exact (Kd.C_below HR495.out (AGE GE492))|(with_reducible refine Kd.C_drewN ?_ _)|(with_reducible refine Kd.C_drew ?_)|(with_reducible refine Kd.C_alloc ?_ _)))
 (case side2=>exact HC495.out);rintro e w' ⟨rfl,⟨nd,rfl⟩⟩;refine ⟨_,rfl,?_⟩;refine hK.out _ _ ⟨(BC BK492.out 0).trans rfl,(BC BK492.out 1).trans rfl,(BC BK492.out 2).trans rfl⟩ (fun hHeld=>?_);clear hK K;refine norm_ (a':=?_) ?_ ?_;rotate_left
 ·show Act.put _ (some 19) _ = _;simp only [Act.put,List.setIfInBounds_toArray,List.set_cons_zero,List.set_cons_succ,i64_w,i32_w];rfl
 refine PC 22 27 HT_ (fun K hK=>?_);refine goes_ Try.func53 (by kernel_rfl) rfl #[.slice A18 (l0.drop ((ji10) : Int).toNat).length (c0 - (ji10).toNat)] (by rfl) rfl rfl (by (try simp only [List.map_toArray,List.map_cons,List.map_nil]);first|done|(rw [show (l0.drop ((ji10) : Int).toNat).length = (l0.length - (ji10).toNat) from List.length_drop] <;> rfl)|(simp only [hji10];rfl)|rfl|(simp only [List.length_drop,List.length_take];rfl)) ?_;with_reducible refine (impl_sum.calls k _ _ (l0.drop ((ji10) : Int).toNat) t498 _ ?side1 ?side2 A13.out).mono ?_
 (case side1=>repeat (first|exact (Kd.C_below HR497.out (AGE GE492))|(with_reducible refine Kd.C_drewN ?_ _)|(with_reducible refine Kd.C_drew ?_)|(with_reducible refine Kd.C_alloc ?_ _)))
 (case side2=>exact HC497.out);rintro e w' ⟨rfl,⟨nd,rfl⟩⟩;refine ⟨_,rfl,?_⟩;refine hK.out _ _ ⟨(BC BK492.out 0).trans rfl,(BC BK492.out 1).trans rfl,(BC BK492.out 2).trans rfl⟩ (fun hHeld=>?_);clear hK K;refine norm_ (a':=?_) ?_ ?_;rotate_left
 ·show Act.put _ (some 27) _ = _;simp only [Act.put,List.setIfInBounds_toArray,List.set_cons_zero,List.set_cons_succ,i64_w,i32_w];rfl
 refine PC 23 28 HT_ (fun K hK=>?_);refine Kd.R_lit_step (Kd.int .i64) _ 3 ?hg (N:=28) ?hd (xs:=([t494,t496,t498] : List Int)) (inner:=[.int .i64 t494,.int .i64 t496,.int .i64 t498]) (ok:=fun _=>True) (okp:=fun _=>True) ?hr ?hp (fun _ hk=>hk) trivial (Below.refl _ _) (Nat.le_refl _) (by simp) ?_;(case hd=>rfl);(case hg=>rfl);(case hr=>exact GS);(case hp=>exact (Reps.one (show Kd.M (Kd.int .i64) _ _ _ t494 [.int .i64 t494] from rfl) (Reps.one (show Kd.M (Kd.int .i64) _ _ _ t496 [.int .i64 t496] from rfl) (Reps.one (show Kd.M (Kd.int .i64) _ _ _ t498 [.int .i64 t498] from rfl) (Reps.none _ _)))));intro v500 w19 ho20 hb hg_ hnew_;clear hg_ hnew_
 (first|rw [← Ny499.out] at ho20|(simp only [Int.reduceToNat] at ho20;rw [← Ny499.out] at ho20));have HO501:=AM (Kd.R_lower ho20 (BZ (AGE GE492)));replace BK492:=AM (blk_below (g:=gb492) (o:=.cells #[.int .i64 a1_0,.int .i64 a1_1,.int .i64 a1_2] 42 (0,0)) (BW BK492) hb);replace HB:=HG GE492 hb;clear hb ho20;refine hK.out _ _ ⟨(BC BK492.out 0).trans rfl,(BC BK492.out 1).trans rfl,(BC BK492.out 2).trans rfl⟩ (fun hHeld=>?_);clear hK K;refine norm_ (a':=?_) ?_ ?_;rotate_left
 ·show Act.put _ (some 28) _ = _;simp only [Act.put,List.setIfInBounds_toArray,List.set_cons_zero,List.set_cons_succ,i64_w,i32_w];rfl
 refine PA 24 4 HT_ ?_;refine done_ (done_of HT_.out (by kernel_rfl)) ?_;try go_wp2
 go_ret;exact ⟨_,by first|rfl|(simp [errW_none,errW_some] <;> rfl)|(simp only [← hji10];first|rfl|(simp [errW_none,errW_some] <;> rfl))|(simp [*,errW_none,errW_some] <;> rfl),KR HO501,AGE GE492⟩

/-! ### impl_favourite: function 24 (given) -/
/-- One piece more is looked at. -/
def impl_favourite.fv (xs ws : List Int) (s b : Int) : Int:=if rd xs s > 0 then (if b < 0 then s else if rd ws s > rd ws b then s else b) else b
def impl_favourite.run (xs ws : List Int) : Nat→Int→Int→Int
 | 0,_,b=>b
 | d + 1,s,b=>impl_favourite.run xs ws d (s + 1) (impl_favourite.fv xs ws s b)
def impl_favourite.f (k : Nat) (l0 : List Int) (a1_0 : Int) (a1_1 : Int) (a1_2 : Int) : Option Int:=(impl_piecesOf.f k l0 a1_0 a1_1 a1_2).bind fun ws=>if ws.length = 3 then some (impl_favourite.run [a1_0,a1_1,a1_2] ws 3 0 (-1)) else none
theorem impl_favourite.mono : ∀ a0 a1 a2 a3 k,LeO (impl_favourite.f k a0 a1 a2 a3) (impl_favourite.f (k + 1) a0 a1 a2 a3):=fun a0 a1 a2 a3 k=>LeO.bind (impl_piecesOf.mono _ _ _ _ _) (fun _=>LeO.refl _)
theorem impl_favourite.calls (k : Nat) (A0 : Option Addr) (c0 : Nat) (l0 : List Int) (a1_0 : Int) (a1_1 : Int) (a1_2 : Int) (r : Int) (w : World) (hr0 : Kd.C (Kd.int .i64) w A0 l0.length l0) (hc0 : l0.length ≤ c0) (h : impl_favourite.f k l0 a1_0 a1_1 a1_2 = some r) :
  Calls Try.prog 24 #[.slice A0 l0.length c0,.agg #[.int .i64 a1_0,.int .i64 a1_1,.int .i64 a1_2]] w fun e w'=>e = .returned (.int .i64 r)∧Below w.heap.size w w':=by
 unfold impl_favourite.f at h;obtain ⟨ws,hws,h⟩:=Option.bind_eq_some_iff.mp h;by_cases hd : ws.length = 3
 ·rw [if_pos hd] at h;have HLEN:=AM hd;have HRR:=AM (Option.some.inj h);have HP:=AM hws;have HR0:=AM hr0;have HC0:=AM hc0;have i0 : ∀ w : World,(Instr.index 42 (.agg #[.int .i64 a1_0,.int .i64 a1_1,.int .i64 a1_2]) (.int .i64 0)).run Try.prog w = .ok (.int .i64 a1_0) w:=fun _=>by kernel_rfl
  have i1 : ∀ w : World,(Instr.index 42 (.agg #[.int .i64 a1_0,.int .i64 a1_1,.int .i64 a1_2]) (.int .i64 1)).run Try.prog w = .ok (.int .i64 a1_1) w:=fun _=>by kernel_rfl
  have i2 : ∀ w : World,(Instr.index 42 (.agg #[.int .i64 a1_0,.int .i64 a1_1,.int .i64 a1_2]) (.int .i64 2)).run Try.prog w = .ok (.int .i64 a1_2) w:=fun _=>by kernel_rfl
  clear h hd hws hr0 hc0;go_enter Try.func24,Try.ntmps24
  go_wp2_with (first
   | ((with_reducible refine gate_dst (N:=3) rfl ?_);refine box_event ?hg (N:=3) ?hd (cs:=#[.int .i64 a1_0,.int .i64 a1_1,.int .i64 a1_2]) (t:=42) ?hr ?_;(case hd=>rfl);(case hg=>rfl);(case hr=>exact GS);intro gb hg w1 hbox hb;have HB1:=AM hb;have HX:=AM hbox;clear hb hg hbox;have z0 : w1.cell? ⟨gb,0,none⟩ = some (.int .i64 a1_0):=(BC HX.out 0).trans rfl;have z1 : w1.cell? ⟨gb,1,none⟩ = some (.int .i64 a1_1):=(BC HX.out 1).trans rfl;have z2 : w1.cell? ⟨gb,2,none⟩ = some (.int .i64 a1_2):=(BC HX.out 2).trans rfl)
   | (go_at_call 39;refine (impl_piecesOf.calls k A0 c0 l0 a1_0 a1_1 a1_2 ws w1 (Kd.C_below HR0.out HB1.out) HC0.out HP.out).mono ?_;rintro e w2 ⟨v0,rfl,hO,hb2⟩;have HO:=AM (Kd.R_lower hO HB1.out.size);have HB:=AM (below_step HB1.out hb2);have HX2:=AM ((hb2.block gb (blk_lt HX.out)).trans HX.out);clear HB1 HX z0 z1 z2 hO hb2;have z0 : w2.cell? ⟨gb,0,none⟩ = some (.int .i64 a1_0):=(BC HX2.out 0).trans rfl;have z1 : w2.cell? ⟨gb,1,none⟩ = some (.int .i64 a1_1):=(BC HX2.out 1).trans rfl;have z2 : w2.cell? ⟨gb,2,none⟩ = some (.int .i64 a1_2):=(BC HX2.out 2).trans rfl;obtain ⟨A1,c1,e1⟩:=Kd.R_slice HO.out;subst e1))
  clear z0 z1 z2 HX2;go_loopg [6,13] 3 (fun gg v6 v13 wr=>∃ (d : Nat) (s b : Int),v13 = .int .i64 s∧v6 = .int .i64 b∧s + (d : Int) = 3∧0 ≤ s∧d ≤ gg∧-1 ≤ b∧b < 3∧Aside0 (impl_favourite.run [a1_0,a1_1,a1_2] ws d s b = r)∧Aside0 (Kd.R (Kd.int .i64) 3 wr w.heap.size (fun _=>True) (.slice A1 ws.length c1) ws)∧Aside0 (Below w.heap.size w wr))
  case atStart=>exact ⟨3,0,-1,rfl,rfl,rfl,by omega,by omega,by omega,by omega,HRR,⟨KR HO⟩,⟨BB⟩⟩
  case round =>
   clear HO HB;obtain ⟨d,s,b,rfl,rfl,hsd,hs0,hg,hb1,hb2,HM,HO,HB⟩:=hrel;cases d with
   | zero =>
    obtain rfl : s = 3:=by omega
    have hm:=HM.out;rw [impl_favourite.run] at hm;subst hm;go_wp2;go_ret;exact ⟨rfl,HB.out⟩
   | succ d =>
    have hm:=HM.out;rw [impl_favourite.run,impl_favourite.fv] at hm;clear HM;have hC:=(Kd.R_reads' HO.out).2.2;have hlen:=HLEN.out;obtain ⟨ad,eA,hx1⟩:=Kd.at_int hC s hs0 (by omega);subst eA;obtain ⟨x,hx⟩ : ∃ x,x = rd [a1_0,a1_1,a1_2] s:=⟨_,rfl⟩;rw [← hx] at hm
    have hs3 : (s = 0∧x = a1_0) ∨ (s = 1∧x = a1_1) ∨ (s = 2∧x = a1_2):=by
     have : s = 0 ∨ s = 1 ∨ s = 2:=by omega
     rcases this with e|e|e
     ·exact .inl ⟨e,by rw [hx,e];rfl⟩
     ·exact .inr (.inl ⟨e,by rw [hx,e];rfl⟩)
     ·exact .inr (.inr ⟨e,by rw [hx,e];rfl⟩)
    clear hx;have HT:=AM (And.intro hsd (And.intro hs0 (And.intro hg (And.intro hb1 hb2))));have q1 : (s < (ws.length : Int)) = True:=ET (by omega);have q10 : (0 < ws.length) = True:=ET (by omega);have q11 : (1 < ws.length) = True:=ET (by omega);have q12 : (2 < ws.length) = True:=ET (by omega);have leaf : ∀ (nb : Int),-1 ≤ nb→nb < 3→impl_favourite.run [a1_0,a1_1,a1_2] ws d (s + 1) nb = r→True:=fun _ _ _ _=>trivial
    by_cases hx0 : x > 0
    ·rw [if_pos hx0] at hm;have d1 : decide (0 < x) = true:=DT hx0;by_cases hb0 : b < 0
     ·rw [if_pos hb0] at hm;have d2 : decide (b < 0) = true:=DT hb0;have HM:=AM hm;clear hm hx0 hb0 hC hlen hx1 hsd hs0 hg hb1 hb2 leaf q1;rcases hs3 with ⟨rfl,rfl⟩|⟨rfl,rfl⟩|⟨rfl,rfl⟩
      all_goals
       go_wp2;repeat (go_quiet (fail);try go_wp2)
       go_roundg d
       case measure=>have:=HT.out;omega
       case rel =>
        have hT:=HT.out;exact ⟨d,_,_,rfl,rfl,by omega,by omega,Nat.le_refl _,by omega,by omega,HM,⟨KR HO⟩,⟨by repeat (first|exact HB.out|apply pw_below_drewN|apply below_drew1)⟩⟩
     ·rw [if_neg hb0] at hm;have d2 : decide (b < 0) = false:=DF hb0;obtain ⟨ad',eA,hx2⟩:=Kd.at_int hC b (by omega) (by omega);obtain rfl : ad = ad':=by injection eA
      clear eA;have p2 : (0 ≤ b) = True:=ET (by omega);have q2 : (b < (ws.length : Int)) = True:=ET (by omega);by_cases hw : rd ws s > rd ws b
      ·rw [if_pos hw] at hm;have d3 : decide (rd ws b < rd ws s) = true:=DT hw;have HM:=AM hm;clear hm hx0 hb0 hC hlen hsd hs0 hg hb1 hb2 leaf hw;rcases hs3 with ⟨rfl,rfl⟩|⟨rfl,rfl⟩|⟨rfl,rfl⟩
       all_goals
        have hx1b:=hx1
        (try rw [show ((0 : Int)).toNat = 0 from rfl] at hx1)
        (try rw [Addr.add_zero'] at hx1)
        (try rw [show ((1 : Int)).toNat = 1 from rfl] at hx1)
        (try rw [show ((2 : Int)).toNat = 2 from rfl] at hx1)
        (try (have hx1d : wr.cell? ⟨ad.block,ad.off + 1,none⟩ = some (.int .i64 (rd ws 1)):=hx1b))
        (try (have hx1d : wr.cell? ⟨ad.block,ad.off + 2,none⟩ = some (.int .i64 (rd ws 2)):=hx1b));go_wp2;repeat (go_quiet (fail);try go_wp2)
        go_roundg d
        case measure=>have:=HT.out;omega
        case rel =>
         have hT:=HT.out;exact ⟨d,_,_,rfl,rfl,by omega,by omega,Nat.le_refl _,by omega,by omega,HM,⟨KR HO⟩,⟨by repeat (first|exact HB.out|apply pw_below_drewN|apply below_drew1)⟩⟩
      ·rw [if_neg hw] at hm;have d3 : decide (rd ws b < rd ws s) = false:=DF hw;have HM:=AM hm;clear hm hx0 hb0 hC hlen hsd hs0 hg hb1 hb2 leaf hw;rcases hs3 with ⟨rfl,rfl⟩|⟨rfl,rfl⟩|⟨rfl,rfl⟩
       all_goals
        have hx1b:=hx1
        (try rw [show ((0 : Int)).toNat = 0 from rfl] at hx1)
        (try rw [Addr.add_zero'] at hx1)
        (try rw [show ((1 : Int)).toNat = 1 from rfl] at hx1)
        (try rw [show ((2 : Int)).toNat = 2 from rfl] at hx1)
        (try (have hx1d : wr.cell? ⟨ad.block,ad.off + 1,none⟩ = some (.int .i64 (rd ws 1)):=hx1b))
        (try (have hx1d : wr.cell? ⟨ad.block,ad.off + 2,none⟩ = some (.int .i64 (rd ws 2)):=hx1b));go_wp2;repeat (go_quiet (fail);try go_wp2)
        go_roundg d
        case measure=>have:=HT.out;omega
        case rel =>
         have hT:=HT.out;exact ⟨d,_,_,rfl,rfl,by omega,by omega,Nat.le_refl _,by omega,by omega,HM,⟨KR HO⟩,⟨by repeat (first|exact HB.out|apply pw_below_drewN|apply below_drew1)⟩⟩
    ·rw [if_neg hx0] at hm;have d1 : decide (0 < x) = false:=DF hx0;have HM:=AM hm;clear hm hx0 hC hlen hx1 hsd hs0 hg hb1 hb2 leaf q1;rcases hs3 with ⟨rfl,rfl⟩|⟨rfl,rfl⟩|⟨rfl,rfl⟩
     all_goals
      go_wp2;repeat (go_quiet (fail);try go_wp2)
      go_roundg d
      case measure=>have:=HT.out;omega
      case rel =>
       have hT:=HT.out;exact ⟨d,_,_,rfl,rfl,by omega,by omega,Nat.le_refl _,by omega,by omega,HM,⟨KR HO⟩,⟨by repeat (first|exact HB.out|apply pw_below_drewN|apply below_drew1)⟩⟩
 ·rw [if_neg hd] at h;cases h

/-! ### impl_cakeLabels: function 37 -/
def impl_cakeLabels.l0 : Nat→List (List Int)→List Int→List (S42)→Int→Int→Option (List Int)
 | 0,_,_,_,_,_=>none
 | k + 1,x1,x5,x10,x11,x12=>if x12 < x11 then (if 0 ≤ x12 then (if x12 < (x10.length : Int) then ((impl_owner.f ((rd_T42 x10 x12).f0) ((rd_T42 x10 x12).f1) ((rd_T42 x10 x12).f2)).bind fun t510=>(if 0 ≤ t510 then (if t510 < (x1.length : Int) then ((impl_favourite.f k (rd_L1 x1 t510) ((rd_T42 x10 x12).f0) ((rd_T42 x10 x12).f1) ((rd_T42 x10 x12).f2)).bind fun t512=>(if x5.length < 17592186044416 then (impl_cakeLabels.l0 k x1 (x5 ++ [t512]) x10 x11 (wrap64 (x12 + 1))) else (none))) else (none)) else (none))) else (none)) else (none)) else (some x5)
def impl_cakeLabels.f (k : Nat) (a0 : Int) (l1 : List (List Int)) : Option (List Int):=(impl_points.f k a0).bind fun t505=>(impl_cakeLabels.l0 k l1 (([] : List Int)) t505 (t505.length : Int) 0)
theorem impl_cakeLabels.mono_l : ∀ k,(∀ y0 y1 y2 y3 y4,LeO (impl_cakeLabels.l0 k y0 y1 y2 y3 y4) (impl_cakeLabels.l0 (k + 1) y0 y1 y2 y3 y4))
 | 0=>fun _ _ _ _ _ r h=>by simp [impl_cakeLabels.l0] at h
 | k + 1=>by
  have ih0:=impl_cakeLabels.mono_l k
  ·intro y0 y1 y2 y3 y4
   unfold impl_cakeLabels.l0
   have m0:=@impl_favourite.mono
   have m1:=@impl_points.mono
   exact MO
theorem impl_cakeLabels.mono : ∀ a0 a1 k,LeO (impl_cakeLabels.f k a0 a1) (impl_cakeLabels.f (k + 1) a0 a1):=by
 intro a0 a1 k;have ih0:=impl_cakeLabels.mono_l k;unfold impl_cakeLabels.f
 have m0:=@impl_favourite.mono
 have m1:=@impl_points.mono
 exact MO
def impl_cakeLabels.T5 : Bool × List (List Nat × List Nat):=(true,[([],[]),([],[]),([],[]),([2],[2]),([1,3],[1,3]),([4],[4]),([],[]),([5,6,3],[5,6]),([7],[7]),([0,8,7],[0,8]),([9,9,0,1,2,3,4,5,6,7,8,9],[0,9])])
def impl_cakeLabels.B5 : List Nat:=[0,0,0,4,14,30,0,126,254,511,1023]
theorem impl_cakeLabels.tab5 : rtab .any (opsOf Try.f37 5) = impl_cakeLabels.T5:=by kernel_rfl
theorem impl_cakeLabels.bits5 : waitsOk impl_cakeLabels.T5.2 impl_cakeLabels.B5 = true:=by kernel_rfl
theorem impl_cakeLabels.calls (k : Nat) (a0 : Int) (A1 : Option Addr) (c1 : Nat) (l1 : List (List Int)) (r : List Int) (w : World) (hr1 : Kd.C (Kd.slice 3 (Kd.int .i64)) w A1 l1.length l1) (hc1 : l1.length ≤ c1) (h : impl_cakeLabels.f k a0 l1 = some r) :
  Calls Try.prog 37 #[.int .i64 a0,.slice A1 l1.length c1] w fun e w'=>∃ v0_ : Value,e = .returned (v0_)∧Kd.R (Kd.int .i64) 3 w' w.heap.size (fun _=>True) v0_ r∧Below w.heap.size w w':=by
 have hu42:=Try.underlying42;have HR1:=AM hr1;have HC1:=AM hc1;clear hr1 hc1;have HB:=HRf w;have H : ((impl_points.f k a0).bind fun t505=>(impl_cakeLabels.l0 k l1 (([] : List Int)) t505 (t505.length : Int) 0)) = some r:=h;clear h;obtain ⟨y502,hy502⟩ : ∃ y_ : List Int,y_ = (([] : List Int)):=⟨_,rfl⟩;replace H : ((impl_points.f k a0).bind fun t505=>(impl_cakeLabels.l0 k l1 y502 t505 (t505.length : Int) 0)) = some r:=HY H hy502;have Ny502:=AM hy502;clear hy502;replace H:=EA H;obtain ⟨t505,A3,H⟩:=H;have H':=AM H;clear H;go_enter Try.func37,Try.ntmps37;go_wp2_with (first|((with_reducible refine gate_dst (N:=8) rfl ?_);refine Kd.R_lit (Kd.int .i64) _ 3 ?hg (N:=8) ?hd (xs:=([] : List Int)) (inner:=[]) (ok:=fun _=>True) (okp:=fun _=>True) ?hr ?hp (fun _ hk=>hk) trivial (Below.refl _ _) (Nat.le_refl _) (by simp) ?_;(case hd=>rfl);(case hg=>rfl);(case hr=>exact GS);(case hp=>exact (Reps.none _ _));intro v503 w4 ho5 hb hg_ hnew_;clear hg_ hnew_;(first|rw [← Ny502.out] at ho5|(simp only [Int.reduceToNat] at ho5;rw [← Ny502.out] at ho5));have HO504:=AM (Kd.R_lower ho5 (BZ BB));replace HB:=HS hb;clear hb ho5)|(refine GC 22 ?_;refine GM (some 10) Try.func22 (impl_points.calls k a0 t505 _ A3.out) ?_;rintro e w6 ⟨v506,rfl,ho0,hb⟩;refine ⟨_,rfl,?_⟩;replace HO504:=RB HO504 hb;have HO507:=AM (Kd.R_lower ho0 (BZ BB));replace HB:=HS hb;try clear hb ho0;obtain ⟨Ao7,co7,eo7⟩:=Kd.R_slice HO507.out;subst eo7));go_loopg [5,12] k (fun kq v5 v12 w'=>∃ (x5_1 : List Int) (x12_1 : Int),v12 = .int .i64 x12_1∧Aside0 (impl_cakeLabels.l0 kq l1 x5_1 t505 (t505.length : Int) x12_1 = some r)∧Aside0 (kq ≤ k)∧Aside0 (Kd.R (Kd.int .i64) 3 w' w.heap.size (fun _=>True) v5 x5_1)∧Aside0 (Kd.R k42 42 w' w.heap.size (fun _=>True) (.slice Ao7 t505.length co7) t505)∧Aside0 (Below w.heap.size w w'))
 case atStart=>exact ⟨(y502),(0),RF,H',⟨Nat.le_refl _⟩,⟨KR HO504⟩,⟨KR HO507⟩,⟨BB⟩⟩
 case round =>
  clear H';try clear c1
  try clear c2
  try clear p2
  try clear c3
  try clear p6
  obtain ⟨x5_1,x12_1,rfl,HA,HK1,HO_5,HO_10,HB⟩:=hrel;cases gk with
  | zero=>exact absurd HA.out (by simp [impl_cakeLabels.l0])
  | succ k1 =>
   have H:=HA.out;clear HA;simp only [impl_cakeLabels.l0] at H;by_cases c8 : x12_1 < (t505.length : Int)
   ·rw [if_pos c8] at H;have c8b0:=DT c8;clear c8;replace H:=IC H;obtain ⟨c9,H⟩:=H;have c9b0:=DT c9;clear c9;replace H:=IC H;obtain ⟨c10,H⟩:=H;have c10b0:=DT c10;clear c10;replace H:=EA H;obtain ⟨t510,A11,H⟩:=H;replace H:=IC H;obtain ⟨c12,H⟩:=H;have c12b0:=DT c12;clear c12;replace H:=IC H;obtain ⟨c13,H⟩:=H;have c13b0:=DT c13;clear c13;replace H:=EA H;obtain ⟨t512,A14,H⟩:=H;replace H:=IC H;obtain ⟨c15,H⟩:=H;have LMc15:=AM c15;clear c15;obtain ⟨y513,hy513⟩ : ∃ y_ : List Int,y_ = (x5_1 ++ [t512]):=⟨_,rfl⟩;replace H : (impl_cakeLabels.l0 k1 l1 y513 t505 (t505.length : Int) (wrap64 (x12_1 + 1))) = some r:=HY H hy513;have Ny513:=AM hy513;clear hy513;have H':=AM H;clear H;have p508 : 0 ≤ (x12_1 : Int):=OD AS;have q508 : x12_1 < (t505.length : Int):=OD AS;obtain ⟨ad508,e508,hx508_0,hx508_1,hx508_2⟩:=at_T42 (Kd.R_reads' HO_10.out).2.2 x12_1 p508 q508;cases e508;replace p508:=ET p508;replace q508:=ET q508;try go_wp2_with (first|((with_reducible refine gate_dst (N:=7) rfl ?_);refine box_event ?hg (N:=7) ?hd (cs:=#[.int .i64 0,.int .i64 0,.int .i64 0]) (t:=42) ?hr ?_;(case hd=>rfl);(case hg=>rfl);(case hr=>exact GS);intro gb509 hg w16 hbox hb;replace HO_5:=RB HO_5 hb;replace HO_10:=AM (Kd.R_below (Kd.R_elderB (KR HO_10) gb509 (Nat.le_of_eq hg.symm)) hb);have BK509:=AM hbox;have GW509:=AM ((by rw [hg];exact (BZ BB) : w.heap.size ≤ gb509));have GE509:=AM ((by rw [hg];exact (BZ BB) : w.heap.size ≤ gb509));replace HB:=HS hb;clear hb hbox hg;have hcz17_0 : w16.cell? ⟨gb509,0,none⟩ = some (.int .i64 0):=(BC BK509.out 0).trans rfl;have hcz17_1 : w16.cell? ⟨gb509,1,none⟩ = some (.int .i64 0):=(BC BK509.out 1).trans rfl;have hcz17_2 : w16.cell? ⟨gb509,2,none⟩ = some (.int .i64 0):=(BC BK509.out 2).trans rfl;have hfz17_0:=BF BK509.out 0;have hfz17_1:=BF BK509.out 1;have hfz17_2:=BF BK509.out 2))
    have n0_ : Aside0 (Kd.R (Kd.int .i64) 3 (((w16.setCell ⟨gb509,0,none⟩ (.int .i64 ((rd_T42 t505 x12_1).f0))).setCell ⟨gb509,1,none⟩ (.int .i64 ((rd_T42 t505 x12_1).f1))).setCell ⟨gb509,2,none⟩ (.int .i64 ((rd_T42 t505 x12_1).f2))) w.heap.size (fun _=>True) u5 x5_1):=⟨by (with_reducible repeat (first|apply Kd.R_alloc|apply Kd.R_drewN|apply Kd.R_drew));exact Kd.R_mono (Kd.R_far (p:=⟨gb509,2,none⟩) (Kd.R_far (p:=⟨gb509,1,none⟩) (Kd.R_far (p:=⟨gb509,0,none⟩) (Kd.R_types HO_5.out BK509.out (by decide)) (fun _ hk=>hk.2) (.int .i64 ((rd_T42 t505 x12_1).f0))) (fun _ hk=>hk.2) (.int .i64 ((rd_T42 t505 x12_1).f1))) (fun _ hk=>hk.2) (.int .i64 ((rd_T42 t505 x12_1).f2))) (fun _ hk=>trivial)⟩;have n1_ : Aside0 (Kd.R k42 42 (((w16.setCell ⟨gb509,0,none⟩ (.int .i64 ((rd_T42 t505 x12_1).f0))).setCell ⟨gb509,1,none⟩ (.int .i64 ((rd_T42 t505 x12_1).f1))).setCell ⟨gb509,2,none⟩ (.int .i64 ((rd_T42 t505 x12_1).f2))) w.heap.size (fun k_=>k_≠gb509) (.slice (some ad508) t505.length co7) t505):=⟨by (with_reducible repeat (first|apply Kd.R_alloc|apply Kd.R_drewN|apply Kd.R_drew));exact Kd.R_mono (Kd.R_far (p:=⟨gb509,2,none⟩) (Kd.R_far (p:=⟨gb509,1,none⟩) (Kd.R_far (p:=⟨gb509,0,none⟩) (Kd.R_mono HO_10.out (fun k_ hk=>(⟨hk,hk.2⟩ : _∧k_≠gb509))) (fun _ hk=>hk.2) (.int .i64 ((rd_T42 t505 x12_1).f0))) (fun _ hk=>hk.2) (.int .i64 ((rd_T42 t505 x12_1).f1))) (fun _ hk=>hk.2) (.int .i64 ((rd_T42 t505 x12_1).f2))) (fun _ hk=>hk.1.2)⟩;have n2_ : Aside0 ((((w16.setCell ⟨gb509,0,none⟩ (.int .i64 ((rd_T42 t505 x12_1).f0))).setCell ⟨gb509,1,none⟩ (.int .i64 ((rd_T42 t505 x12_1).f1))).setCell ⟨gb509,2,none⟩ (.int .i64 ((rd_T42 t505 x12_1).f2))).heap[gb509]? = some (.cells #[.int .i64 ((rd_T42 t505 x12_1).f0),.int .i64 ((rd_T42 t505 x12_1).f1),.int .i64 ((rd_T42 t505 x12_1).f2)] 42 (0,0))):=⟨by (with_reducible repeat (first|refine blk_drewN ?_ _|refine blk_drew ?_|refine blk_alloc ?_ _));refine blk_put (cs:=#[.int .i64 ((rd_T42 t505 x12_1).f0),.int .i64 ((rd_T42 t505 x12_1).f1),.int .i64 0]) ?_ 2 _ rfl;(with_reducible repeat (first|refine blk_drewN ?_ _|refine blk_drew ?_|refine blk_alloc ?_ _));refine blk_put (cs:=#[.int .i64 ((rd_T42 t505 x12_1).f0),.int .i64 0,.int .i64 0]) ?_ 1 _ rfl;(with_reducible repeat (first|refine blk_drewN ?_ _|refine blk_drew ?_|refine blk_alloc ?_ _));refine blk_put (cs:=#[.int .i64 0,.int .i64 0,.int .i64 0]) ?_ 0 _ rfl;(with_reducible repeat (first|refine blk_drewN ?_ _|refine blk_drew ?_|refine blk_alloc ?_ _));exact BK509.out⟩;have n3_ : Aside0 (Below w.heap.size w (((w16.setCell ⟨gb509,0,none⟩ (.int .i64 ((rd_T42 t505 x12_1).f0))).setCell ⟨gb509,1,none⟩ (.int .i64 ((rd_T42 t505 x12_1).f1))).setCell ⟨gb509,2,none⟩ (.int .i64 ((rd_T42 t505 x12_1).f2)))):=⟨AGE GE509⟩
    
    generalize (((w16.setCell ⟨gb509,0,none⟩ (.int .i64 ((rd_T42 t505 x12_1).f0))).setCell ⟨gb509,1,none⟩ (.int .i64 ((rd_T42 t505 x12_1).f1))).setCell ⟨gb509,2,none⟩ (.int .i64 ((rd_T42 t505 x12_1).f2))) = w18 at n0_ n1_ n2_ n3_ ⊢;have HO_5:=n0_;have HO_10:=n1_;have BK509:=n2_;have HB:=n3_;clear n0_ n1_ n2_ n3_;replace HO_5:=AM (Kd.R_drew HO_5.out);replace HO_10:=AM (Kd.R_drew HO_10.out);replace BK509:=AM (blk_drew BK509.out);replace HB:=AM (below_drew1 HB.out);have p511 : 0 ≤ (t510 : Int):=OD AS;have q511 : t510 < (l1.length : Int):=OD AS;obtain ⟨ad511,A511_0,c511_0,e511,hx511_0,hl511_0,hi511_0⟩:=at_L1 HR1.out t510 p511 q511;have hw511_0:=hx511_0;cases e511;try (replace hx511_0:=LC hx511_0)
    have HR511_0:=AM hi511_0;have HC511_0:=AM hl511_0;clear hi511_0 hl511_0;replace p511:=ET p511;replace q511:=ET q511;refine PSt (n:=11) (S:=fun w'=>w'.cell? ⟨gb509,0,none⟩ = some (.int .i64 ((rd_T42 t505 x12_1).f0))∧w'.cell? ⟨gb509,1,none⟩ = some (.int .i64 ((rd_T42 t505 x12_1).f1))∧w'.cell? ⟨gb509,2,none⟩ = some (.int .i64 ((rd_T42 t505 x12_1).f2))∧w'.cell? (ad511.add (t510).toNat) = some (.slice A511_0 (rd_L1 l1 t510).length c511_0)) (ds:=[]) ⟨(BC BK509.out 0).trans rfl,(BC BK509.out 1).trans rfl,(BC BK509.out 2).trans rfl,LC hw511_0⟩ (fun hHeld=>?_);refine with_tabW impl_cakeLabels.tab5 impl_cakeLabels.bits5 (fun HT_ HW_=>?_);generalize w18.drew = w19 at HO_5 HO_10 BK509 HB HR511_0 hx511_0 hHeld ⊢;refine PA 0 16 HT_ ?_;refine PA 1 17 HT_ ?_;refine PB 2 18 HT_ HW_ hHeld ?_;refine PB 6 22 HT_ HW_ hHeld ?_;refine PC 3 19 HT_ (fun K hK=>?_);refine goes_ Try.func23 (by kernel_rfl) rfl #[.agg #[.int .i64 ((rd_T42 t505 x12_1).f0),.int .i64 ((rd_T42 t505 x12_1).f1),.int .i64 ((rd_T42 t505 x12_1).f2)]] (by rfl) rfl rfl TA ?_;with_reducible refine (impl_owner.calls ((rd_T42 t505 x12_1).f0) ((rd_T42 t505 x12_1).f1) ((rd_T42 t505 x12_1).f2) t510 _ A11.out).mono ?_;rintro e w20 ⟨rfl,hb⟩;refine ⟨_,rfl,?_⟩;replace HO_5:=RB HO_5 hb;replace HO_10:=RB HO_10 hb;replace BK509:=AM (blk_below (g:=gb509) (o:=.cells #[.int .i64 ((rd_T42 t505 x12_1).f0),.int .i64 ((rd_T42 t505 x12_1).f1),.int .i64 ((rd_T42 t505 x12_1).f2)] 42 (0,0)) (BW BK509) hb);replace HB:=HG GE509 hb;try clear hb
    refine hK.out _ _ ⟨(BC BK509.out 0).trans rfl,(BC BK509.out 1).trans rfl,(BC BK509.out 2).trans rfl,LC hw511_0⟩ (fun hHeld=>?_);clear hK K;refine norm_ (a':=?_) ?_ ?_;rotate_left
    ·show Act.put _ (some 19) _ = _;simp only [Act.put,List.setIfInBounds_toArray,List.set_cons_zero,List.set_cons_succ,i64_w,i32_w];rfl
    refine PA 4 20 HT_ ?_;refine PB 5 21 HT_ HW_ hHeld ?_;refine PC 7 23 HT_ (fun K hK=>?_);refine goes_ Try.func24 (by kernel_rfl) rfl #[.slice A511_0 (rd_L1 l1 t510).length c511_0,.agg #[.int .i64 ((rd_T42 t505 x12_1).f0),.int .i64 ((rd_T42 t505 x12_1).f1),.int .i64 ((rd_T42 t505 x12_1).f2)]] (by rfl) rfl rfl TA ?_;with_reducible refine (impl_favourite.calls k1 _ _ (rd_L1 l1 t510) ((rd_T42 t505 x12_1).f0) ((rd_T42 t505 x12_1).f1) ((rd_T42 t505 x12_1).f2) t512 _ ?side1 ?side2 A14.out).mono ?_
    (case side1=>exact CW (Kd.C_below HR511_0.out HB.out))
    (case side2=>exact HC511_0.out);rintro e w21 ⟨rfl,hb⟩;refine ⟨_,rfl,?_⟩;replace HO_5:=RB HO_5 hb;replace HO_10:=RB HO_10 hb;replace BK509:=AM (blk_below (g:=gb509) (o:=.cells #[.int .i64 ((rd_T42 t505 x12_1).f0),.int .i64 ((rd_T42 t505 x12_1).f1),.int .i64 ((rd_T42 t505 x12_1).f2)] 42 (0,0)) (BW BK509) hb);replace HB:=HG GE509 hb;try clear hb
    refine hK.out _ _ ⟨(BC BK509.out 0).trans rfl,(BC BK509.out 1).trans rfl,(BC BK509.out 2).trans rfl,LC hw511_0⟩ (fun hHeld=>?_);clear hK K;refine norm_ (a':=?_) ?_ ?_;rotate_left
    ·show Act.put _ (some 23) _ = _;simp only [Act.put,List.setIfInBounds_toArray,List.set_cons_zero,List.set_cons_succ,i64_w,i32_w];rfl
    refine PC 8 24 HT_ (fun K hK=>?_);refine value_ (w1:=?_) (v:=?_) (by rfl) rfl ?_ ?_;rotate_left 2
    ·go_simp;constructor
     ·rfl
     ·rfl
    refine hK.out _ _ ⟨(BC (blk_alloc BK509.out _) 0).trans rfl,(BC (blk_alloc BK509.out _) 1).trans rfl,(BC (blk_alloc BK509.out _) 2).trans rfl,(World.cell?_alloc_lt _ _ _ (BL _ _ ((LC hw511_0)))).trans ((LC hw511_0))⟩ (fun hHeld=>?_);clear hK K;refine norm_ (a':=?_) ?_ ?_;rotate_left
    ·show Act.put _ (some 24) _ = _;simp only [Act.put,List.setIfInBounds_toArray,List.set_cons_zero,List.set_cons_succ,i64_w,i32_w];rfl
    refine PC 9 25 HT_ (fun K hK=>?_);refine Kd.R_append_step (Kd.int .i64) (w0:=w) w.heap.size (by rfl) (.tmp 16) (.tmp 24) 24 3 (.int .i64 0) 8 rfl Try.underlying24 info3 rfl (by decide) (by omega) u5 x5_1 t512 [.int .i64 t512] (fun _=>True) (fun _=>False) rfl rfl ?aP (fun _ hk=>hk.elim) ?aF ?aO ?aB ?aS ?aL ?_
    (case aP=>exact rfl)
    (case aB=>exact (AGE GE509))
    (case aF=>exact (fun _ _=>trivial))
    (case aO=>exact (KR HO_5))
    (case aS=>exact (BZ (AGE GE509)))
    (case aL=>have:=LMc15.out;omega);intro v514 w22 ho hb hg hat;rw [← Ny513.out] at ho;replace HO_10:=AM (Kd.R_over' (KR HO_10) (Kd.R_typed (KR HO_5)) (by decide) hg);replace BK509:=AM (blk_grown (g:=gb509) (o:=.cells #[.int .i64 ((rd_T42 t505 x12_1).f0),.int .i64 ((rd_T42 t505 x12_1).f1),.int .i64 ((rd_T42 t505 x12_1).f2)] 42 (0,0)) (BW BK509) hg (Kd.R_ne HO_5.out BK509.out (by decide)));replace HB:=AM hb;have HO515:=AM ho;clear HO_5;clear ho hb hg hat;refine hK.out _ _ ⟨(BC BK509.out 0).trans rfl,(BC BK509.out 1).trans rfl,(BC BK509.out 2).trans rfl,LC hw511_0⟩ (fun hHeld=>?_);clear hK K;refine norm_ (a':=?_) ?_ ?_;rotate_left
    ·show Act.put _ (some 25) _ = _;simp only [Act.put,List.setIfInBounds_toArray,List.set_cons_zero,List.set_cons_succ,i64_w,i32_w];rfl
    refine PA 10 5 HT_ ?_;refine done_ (done_of HT_.out (by kernel_rfl)) ?_;try go_wp2
    go_roundg k1
    case measure=>have:=HK1.out;omega
    case rel=>exact ⟨(y513),(wrap64 (x12_1 + 1)),RF,H',⟨by have:=HK1.out;omega⟩,⟨KR HO515⟩,⟨by (with_reducible repeat (first|apply Kd.R_alloc|apply Kd.R_drewN|apply Kd.R_drew));exact Kd.R_mono HO_10.out (fun _ hk=>trivial)⟩,⟨AGE GE509⟩⟩
   ·rw [if_neg c8] at H;have c8b0:=DF c8;try (have c8bl:=c8b0;rw [hl511_0] at c8bl)
    clear c8;obtain rfl:=Option.some.inj H;go_wp2;go_ret;exact ⟨_,RE,KR HO_5,BB⟩

end Go.Proofs.Ytcecimigkndakab.PFnExactFairCut
