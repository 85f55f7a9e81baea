-- Written by a program of this session (wip/tools/pp.sh) out of the translation; Lean checks it.
import Derived.Test.YtlolkkfpfjlhmaaPFnOppositeEdgesFoundx5
namespace Go.Proofs.Ytlolkkfpfjlhmaa.PFnOppositeEdgesFound
open Go.RowKit Go.Proofs.YtlolkkfpfjlhmaaOwn Go.Proofs.YtlolkkfpfjlhmaaW.PrintWords Go.Proofs.YtlolkkfpfjlhmaaW.PrintLast Go.Proofs.YtlolkkfpfjlhmaaW.PrintMore
attribute [local go_sem] max2_int min2_int max_two min_two max_three min_three max_four min_four   -- for this text's walks alone
set_option linter.unusedVariables false
set_option maxHeartbeats 8000000
set_option maxRecDepth 100000
set_option linter.unusedSimpArgs false

/-! ### impl_square_cells: function 24 -/
mutual
def impl_square_cells.l0 : Nat→List (List Int)→Int→Int→Int→Int→Option ((List (List Int)))
 | 0,_,_,_,_,_=>none
 | k + 1,x3,x4,x14,x15,x277000=>if x15 < x14 then (impl_square_cells.l1 k x3 x4 x15 (wrap64 (x15 + 1)) x14 x15 x277000) else (some x3)
def impl_square_cells.l1 : Nat→List (List Int)→Int→Int→Int→Int→Int→Int→Option ((List (List Int)))
 | 0,_,_,_,_,_,_,_=>none
 | k + 1,x3,x4,x5,x6,x14,x15,x277000=>if x6 < x4 then (impl_square_cells.l2 k x3 x4 x5 x6 (wrap64 (x6 + 1)) x14 x15 x277000) else (impl_square_cells.l0 k x3 x4 x14 (wrap64 (x15 + 1)) x277000)
def impl_square_cells.l2 : Nat→List (List Int)→Int→Int→Int→Int→Int→Int→Int→Option ((List (List Int)))
 | 0,_,_,_,_,_,_,_,_=>none
 | k + 1,x3,x4,x5,x6,x7,x14,x15,x277000=>if x7 < x4 then ((impl_square_areNear.f x277000 x5 x6).bind fun t282=>(impl_square_cells.j3 k x3 x4 x5 x6 x7 x14 x15 t282 x277000)) else (impl_square_cells.j3 k x3 x4 x5 x6 x7 x14 x15 false x277000)
def impl_square_cells.j3 : Nat→List (List Int)→Int→Int→Int→Int→Int→Int→Bool→Int→Option ((List (List Int)))
 | 0,_,_,_,_,_,_,_,_,_=>none
 | k + 1,x3,x4,x5,x6,x7,x14,x15,x35,x277000=>if x35 = true then ((impl_square_areNear.f x277000 x5 x7).bind fun t283=>(if t283 = true then ((impl_square_areNear.f x277000 x6 x7).bind fun t284=>(if t284 = true then (if x3.length < 5864062014805 then (impl_square_cells.l2 k (x3 ++ [(([x5,x6,x7] : List Int))]) x4 x5 x6 (wrap64 (x7 + 1)) x14 x15 x277000) else (none)) else (impl_square_cells.l2 k x3 x4 x5 x6 (wrap64 (x7 + 1)) x14 x15 x277000))) else (impl_square_cells.l2 k x3 x4 x5 x6 (wrap64 (x7 + 1)) x14 x15 x277000))) else (impl_square_cells.l1 k x3 x4 x5 (wrap64 (x6 + 1)) x14 x15 x277000)
end
def impl_square_cells.f (k : Nat) (a0_0 : Int) : Option ((List (List Int))):=(impl_square_wide.f a0_0).bind fun t280=>((impl_square_wide.f a0_0).bind fun t281=>(impl_square_cells.l0 k (([] : List (List Int))) (wrap64 (t280 * t281)) (wrap64 (t280 * t281)) 0 a0_0))
theorem impl_square_cells.mono_l : ∀ k,(∀ y0 y1 y2 y3 y4,LeO (impl_square_cells.l0 k y0 y1 y2 y3 y4) (impl_square_cells.l0 (k + 1) y0 y1 y2 y3 y4))∧(∀ y0 y1 y2 y3 y4 y5 y6,LeO (impl_square_cells.l1 k y0 y1 y2 y3 y4 y5 y6) (impl_square_cells.l1 (k + 1) y0 y1 y2 y3 y4 y5 y6))∧(∀ y0 y1 y2 y3 y4 y5 y6 y7,LeO (impl_square_cells.l2 k y0 y1 y2 y3 y4 y5 y6 y7) (impl_square_cells.l2 (k + 1) y0 y1 y2 y3 y4 y5 y6 y7))∧(∀ y0 y1 y2 y3 y4 y5 y6 y7 y8,LeO (impl_square_cells.j3 k y0 y1 y2 y3 y4 y5 y6 y7 y8) (impl_square_cells.j3 (k + 1) y0 y1 y2 y3 y4 y5 y6 y7 y8))
 | 0=>⟨fun _ _ _ _ _=>LZ,fun _ _ _ _ _ _ _=>LZ,fun _ _ _ _ _ _ _ _=>LZ,fun _ _ _ _ _ _ _ _ _=>LZ⟩
 | k + 1=>by
  obtain ⟨ih0,ih1,ih2,ih3⟩:=impl_square_cells.mono_l k
  refine ⟨?_,?_,?_,?_⟩ <;> intros
  all_goals (first|unfold impl_square_cells.l0|unfold impl_square_cells.l1|unfold impl_square_cells.l2|unfold impl_square_cells.j3)
  all_goals exact MO
theorem impl_square_cells.mono : ∀ a0 k,LeO (impl_square_cells.f k a0) (impl_square_cells.f (k + 1) a0):=by
 intro a0 k;obtain ⟨ih0,ih1,ih2,ih3⟩:=impl_square_cells.mono_l k;unfold impl_square_cells.f
 exact MO
def impl_square_cells.T1 : Bool × List (List Nat × List Nat):=(true,[([],[]),([],[]),([1],[1]),([],[]),([3,2],[3]),([2,4],[2,4]),([0,4,0],[0]),([5,6,0,1,2,3,4,5,6],[5])])
def impl_square_cells.B1 : List Nat:=[0,0,2,0,14,30,31,127]
theorem impl_square_cells.tab1 : rtab .any (opsOf Try.f24 1) = impl_square_cells.T1:=by kernel_rfl
theorem impl_square_cells.bits1 : waitsOk impl_square_cells.T1.2 impl_square_cells.B1 = true:=by kernel_rfl
theorem impl_square_cells.calls (k : Nat) (a0_0 : Int) (r : List (List Int)) (w : World) (h : impl_square_cells.f k a0_0 = some r) :
  Calls Try.prog 24 #[.agg #[.int .i64 a0_0]] w fun e w'=>∃ v0_ : Value,e = .returned (v0_)∧Kd.S (Kd.slice 3 (Kd.int .i64)) 24 w' w.heap.size (fun _=>True) v0_ r∧Below w.heap.size w w':=by
 have hu43:=Try.underlying43;have HB:=HRf w;have H : ((impl_square_wide.f a0_0).bind fun t280=>((impl_square_wide.f a0_0).bind fun t281=>(impl_square_cells.l0 k (([] : List (List Int))) (wrap64 (t280 * t281)) (wrap64 (t280 * t281)) 0 a0_0))) = some r:=h;clear h;obtain ⟨y277,hy277⟩ : ∃ y_ : List (List Int),y_ = (([] : List (List Int))):=⟨_,rfl⟩;replace H : ((impl_square_wide.f a0_0).bind fun t280=>((impl_square_wide.f a0_0).bind fun t281=>(impl_square_cells.l0 k y277 (wrap64 (t280 * t281)) (wrap64 (t280 * t281)) 0 a0_0))) = some r:=HY H hy277;have Ny277:=AM hy277;clear hy277;replace H:=EA H;obtain ⟨t280,A2,H⟩:=H;replace H:=EA H;obtain ⟨t281,A3,H⟩:=H;have H':=AM H;clear H;go_enter Try.func24,Try.ntmps24;try go_wp2_with (first|((with_reducible refine gate_dst (N:=1) rfl ?_);refine box_event ?hg (N:=1) ?hd (cs:=#[.int .i64 a0_0]) (t:=43) ?hr ?_;(case hd=>rfl);(case hg=>rfl);(case hr=>exact GS);intro gb276 hg w4 hbox hb;have BK276:=AM hbox;have GW276:=AM ((by rw [hg];exact (BZ BB) : w.heap.size ≤ gb276));have GE276:=AM ((by rw [hg];exact (BZ BB) : w.heap.size ≤ gb276));replace HB:=HS hb;clear hb hbox hg))
 replace BK276:=AM (blk_drew BK276.out);replace HB:=AM (below_drew1 HB.out);refine PSt (n:=8) (S:=fun w'=>True) (ds:=[]) trivial (fun hHeld=>?_);refine with_tabW impl_square_cells.tab1 impl_square_cells.bits1 (fun HT_ HW_=>?_);generalize w4.drew = w5 at BK276 HB hHeld ⊢;refine inv_at [0,1,2,3,4,5,6,7] (fun a0_ b a w'=>∃ (v278 : Value) (m6_ : Value),a = putSel a0_ b [(0,8,v278),(1,9,.agg #[.int .i64 a0_0]),(2,10,.int .i64 t280),(3,11,.agg #[.int .i64 a0_0]),(4,12,.int .i64 t281),(5,13,.int .i64 (wrap64 (t280 * t281))),(6,3,m6_),(7,4,.int .i64 (wrap64 (t280 * t281)))]∧(w'.heap[gb276]? = some (.cells #[.int .i64 a0_0] 43 (0,0)))∧(Below w.heap.size w w')∧(b 0 = true→Kd.S (Kd.slice 3 (Kd.int .i64)) 24 w' w.heap.size (fun _=>True) v278 y277)∧(b 6 = true→(m6_ : Value) = v278)) HT_.out HW_.out (by kernel_rfl) (by kernel_rfl) ?_ ?_ ?_
 ·exact ⟨.bool false,.bool false,by simp only [putSel,Bool.false_eq_true,if_false],BK276.out,HB.out,fun h_=>absurd h_ (by decide),fun h_=>absurd h_ (by decide)⟩
 ·skip
  clear BK276 HB;refine steps_cons ?_ ?_
  ·rintro b a w' ⟨v278,m6_,ha,Q_BK276,Q_HB,Q_HO279,Q_X6_⟩ hb_ hon hoff;refine ⟨_,rfl,fun K hK=>?_⟩;replace ha:=AM ha;have BK276:=AM Q_BK276;have HB:=AM Q_HB;refine Kd.S_lit_step (Kd.slice 3 (Kd.int .i64)) _ 24 ?hg (N:=8) ?hd (xs:=([] : List (List Int))) (inner:=[]) (ok:=fun _=>True) (okp:=fun _=>True) ?hr ?hp (fun _ hk=>hk) trivial (Below.refl _ _) (Nat.le_refl _) (by simp) ?_;(case hd=>rfl);(case hg=>rfl);(case hr=>exact GS);(case hp=>exact (Reps.none _ _));intro v278 w6 ho7 hb hg_ hnew_;clear hg_ hnew_
   (first|rw [← Ny277.out] at ho7|(simp only [Int.reduceToNat] at ho7;rw [← Ny277.out] at ho7));have HO279:=AM (Kd.S_lower ho7 (BZ (AGE GE276)));replace BK276:=AM (blk_below (g:=gb276) (o:=.cells #[.int .i64 a0_0] 43 (0,0)) (BW BK276) hb);replace HB:=HG GE276 hb;clear hb ho7;refine hK.out _ _ ⟨v278,m6_,(by rw [ha.out];exact putSel_upk 0 hb_ rfl rfl rfl),(BW BK276),(AGE GE276),fun _=>(KS HO279),fun h0_=>absurd ((hoff 6 (by kernel_rfl)).symm.trans h0_) (by decide)⟩
  refine steps_cons ?_ ?_
  ·rintro b a w' ⟨v278,m6_,ha,Q_BK276,Q_HB,Q_HO279,Q_X6_⟩ hb_ hon hoff;refine ⟨_,rfl,fun K hK=>?_⟩;have e1 : a.tmps[1]? = some (.pointer (some ⟨gb276,0,none⟩)):=by rw [ha];exact (putSel_off rfl).trans rfl
   replace ha:=AM ha;have BK276:=AM Q_BK276;have HB:=AM Q_HB;have hc0_ : w'.cell? ⟨gb276,0,none⟩ = some (.int .i64 a0_0):=(BC BK276.out 0).trans rfl;refine value_ (w1:=w') (v:=.agg #[.int .i64 a0_0]) (by rfl) rfl ?_ ?_
   ·exact PG
   refine hK.out _ _ ⟨v278,m6_,(by rw [ha.out];exact putSel_upk 1 hb_ rfl rfl rfl),Q_BK276,Q_HB,Q_HO279,fun h0_=>absurd ((hoff 6 (by kernel_rfl)).symm.trans h0_) (by decide)⟩
  refine steps_cons ?_ ?_
  ·rintro b a w' ⟨v278,m6_,ha,Q_BK276,Q_HB,Q_HO279,Q_X6_⟩ hb_ hon hoff;refine ⟨_,rfl,fun K hK=>?_⟩;have e9 : a.tmps[9]? = some (.agg #[.int .i64 a0_0]):=by rw [ha];exact putSel_on (e:=(1,9,.agg #[.int .i64 a0_0])) 1 rfl rfl (hon 1 (by kernel_rfl)) rfl
   replace ha:=AM ha;have BK276:=AM Q_BK276;have HB:=AM Q_HB;refine goes_ Try.func49 (by kernel_rfl) rfl #[.agg #[.int .i64 a0_0]] (by rfl) rfl rfl (by first|(simp only [List.map_toArray,List.map_cons,List.map_nil,Act.eval,Array.getD_eq_getD_getElem?,Option.getD_some,e9];done)|(simp only [List.map_toArray,List.map_cons,List.map_nil,Act.eval,Array.getD_eq_getD_getElem?,Option.getD_some,e9];rfl)) ?_;with_reducible refine (impl_square_wide.calls a0_0 t280 _ A2.out).mono ?_
   rintro e w6 ⟨rfl,hb⟩;refine ⟨_,rfl,?_⟩;have n0_:=AM (blk_below (g:=gb276) (o:=.cells #[.int .i64 a0_0] 43 (0,0)) (BW BK276) hb);have n1_:=HG GE276 hb;have z_HO279:=fun (h0_ : b 0 = true)=>(show Kd.S (Kd.slice 3 (Kd.int .i64)) 24 w6 w.heap.size (fun _=>True) v278 y277 from by first|exact (Kd.S_below (by (with_reducible repeat (first|apply Kd.S_alloc|apply Kd.S_drewN|apply Kd.S_drew));exact (Q_HO279 h0_)) hb)|exact Kd.S_mono (Kd.S_below (by (with_reducible repeat (first|apply Kd.S_alloc|apply Kd.S_drewN|apply Kd.S_drew));exact (Q_HO279 h0_)) hb) (fun _ h_=>by first|trivial|exact h_|exact h_.1))
   clear BK276;clear HB;have BK276:=n0_;have HB:=n1_;clear n0_ n1_;try clear hb
   refine hK.out _ _ ⟨v278,m6_,(by rw [ha.out];exact putSel_upk 2 hb_ rfl rfl rfl),(BW BK276),(AGE GE276),z_HO279,fun h0_=>absurd ((hoff 6 (by kernel_rfl)).symm.trans h0_) (by decide)⟩
  refine steps_cons ?_ ?_
  ·rintro b a w' ⟨v278,m6_,ha,Q_BK276,Q_HB,Q_HO279,Q_X6_⟩ hb_ hon hoff;refine ⟨_,rfl,fun K hK=>?_⟩;have e1 : a.tmps[1]? = some (.pointer (some ⟨gb276,0,none⟩)):=by rw [ha];exact (putSel_off rfl).trans rfl
   replace ha:=AM ha;have BK276:=AM Q_BK276;have HB:=AM Q_HB;have hc0_ : w'.cell? ⟨gb276,0,none⟩ = some (.int .i64 a0_0):=(BC BK276.out 0).trans rfl;refine value_ (w1:=w') (v:=.agg #[.int .i64 a0_0]) (by rfl) rfl ?_ ?_
   ·exact PG
   refine hK.out _ _ ⟨v278,m6_,(by rw [ha.out];exact putSel_upk 3 hb_ rfl rfl rfl),Q_BK276,Q_HB,Q_HO279,fun h0_=>absurd ((hoff 6 (by kernel_rfl)).symm.trans h0_) (by decide)⟩
  refine steps_cons ?_ ?_
  ·rintro b a w' ⟨v278,m6_,ha,Q_BK276,Q_HB,Q_HO279,Q_X6_⟩ hb_ hon hoff;refine ⟨_,rfl,fun K hK=>?_⟩;have e11 : a.tmps[11]? = some (.agg #[.int .i64 a0_0]):=by rw [ha];exact putSel_on (e:=(3,11,.agg #[.int .i64 a0_0])) 3 rfl rfl (hon 3 (by kernel_rfl)) rfl
   replace ha:=AM ha;have BK276:=AM Q_BK276;have HB:=AM Q_HB;refine goes_ Try.func49 (by kernel_rfl) rfl #[.agg #[.int .i64 a0_0]] (by rfl) rfl rfl (by first|(simp only [List.map_toArray,List.map_cons,List.map_nil,Act.eval,Array.getD_eq_getD_getElem?,Option.getD_some,e11];done)|(simp only [List.map_toArray,List.map_cons,List.map_nil,Act.eval,Array.getD_eq_getD_getElem?,Option.getD_some,e11];rfl)) ?_;with_reducible refine (impl_square_wide.calls a0_0 t281 _ A3.out).mono ?_
   rintro e w8 ⟨rfl,hb⟩;refine ⟨_,rfl,?_⟩;have n0_:=AM (blk_below (g:=gb276) (o:=.cells #[.int .i64 a0_0] 43 (0,0)) (BW BK276) hb);have n1_:=HG GE276 hb;have z_HO279:=fun (h0_ : b 0 = true)=>(show Kd.S (Kd.slice 3 (Kd.int .i64)) 24 w8 w.heap.size (fun _=>True) v278 y277 from by first|exact (Kd.S_below (by (with_reducible repeat (first|apply Kd.S_alloc|apply Kd.S_drewN|apply Kd.S_drew));exact (Q_HO279 h0_)) hb)|exact Kd.S_mono (Kd.S_below (by (with_reducible repeat (first|apply Kd.S_alloc|apply Kd.S_drewN|apply Kd.S_drew));exact (Q_HO279 h0_)) hb) (fun _ h_=>by first|trivial|exact h_|exact h_.1))
   clear BK276;clear HB;have BK276:=n0_;have HB:=n1_;clear n0_ n1_;try clear hb
   refine hK.out _ _ ⟨v278,m6_,(by rw [ha.out];exact putSel_upk 4 hb_ rfl rfl rfl),(BW BK276),(AGE GE276),z_HO279,fun h0_=>absurd ((hoff 6 (by kernel_rfl)).symm.trans h0_) (by decide)⟩
  refine steps_cons ?_ ?_
  ·rintro b a w' ⟨v278,m6_,ha,Q_BK276,Q_HB,Q_HO279,Q_X6_⟩ hb_ hon hoff;refine ⟨_,rfl,fun K hK=>?_⟩;have e10 : a.tmps[10]? = some (.int .i64 t280):=by rw [ha];exact putSel_on (e:=(2,10,.int .i64 t280)) 2 rfl rfl (hon 2 (by kernel_rfl)) rfl
   have e12 : a.tmps[12]? = some (.int .i64 t281):=by rw [ha];exact putSel_on (e:=(4,12,.int .i64 t281)) 4 rfl rfl (hon 4 (by kernel_rfl)) rfl
   replace ha:=AM ha;have BK276:=AM Q_BK276;have HB:=AM Q_HB;refine value_ (w1:=w') (v:=.int .i64 (wrap64 (t280 * t281))) (by rfl) rfl ?_ ?_
   ·exact PG
   refine hK.out _ _ ⟨v278,m6_,(by rw [ha.out];exact putSel_upk 5 hb_ rfl rfl rfl),Q_BK276,Q_HB,Q_HO279,Q_X6_⟩
  refine steps_cons ?_ ?_
  ·rintro b a w' ⟨v278,m6_,ha,Q_BK276,Q_HB,Q_HO279,Q_X6_⟩ hb_ hon hoff;refine ⟨_,rfl,fun K hK=>?_⟩;have e8 : a.tmps[8]? = some (v278):=by rw [ha];exact putSel_on (e:=(0,8,v278)) 0 rfl rfl (hon 0 (by kernel_rfl)) rfl
   replace ha:=AM ha;have BK276:=AM Q_BK276;have HB:=AM Q_HB;have HO279:=AM (Q_HO279 (hon 0 (by kernel_rfl)));refine value_ (w1:=w') (v:=v278) (by rfl) rfl ?_ ?_
   ·exact PG
   refine hK.out _ _ ⟨v278,(v278),(by rw [ha.out];exact putSel_upk 6 hb_ rfl rfl rfl),Q_BK276,Q_HB,Q_HO279,fun _=>rfl⟩
  refine steps_cons ?_ ?_
  ·rintro b a w' ⟨v278,m6_,ha,Q_BK276,Q_HB,Q_HO279,Q_X6_⟩ hb_ hon hoff;refine ⟨_,rfl,fun K hK=>?_⟩;have e13 : a.tmps[13]? = some (.int .i64 (wrap64 (t280 * t281))):=by rw [ha];exact putSel_on (e:=(5,13,.int .i64 (wrap64 (t280 * t281)))) 5 rfl rfl (hon 5 (by kernel_rfl)) rfl
   replace ha:=AM ha;have BK276:=AM Q_BK276;have HB:=AM Q_HB;have HO279:=AM (Q_HO279 (hon 0 (by kernel_rfl)));refine value_ (w1:=w') (v:=.int .i64 (wrap64 (t280 * t281))) (by rfl) rfl ?_ ?_
   ·exact PG
   refine hK.out _ _ ⟨v278,m6_,(by rw [ha.out];exact putSel_upk 7 hb_ rfl rfl rfl),Q_BK276,Q_HB,Q_HO279,Q_X6_⟩
  exact steps_nil
 rintro b a w10 hall ⟨v278,m6_,ha,Q_BK276,Q_HB,Q_HO279,Q_X6_⟩;clear BK276 HB;have hb0_:=hall 0 (by kernel_rfl);have hb1_:=hall 1 (by kernel_rfl);have hb2_:=hall 2 (by kernel_rfl);have hb3_:=hall 3 (by kernel_rfl);have hb4_:=hall 4 (by kernel_rfl);have hb5_:=hall 5 (by kernel_rfl);have hb6_:=hall 6 (by kernel_rfl);have hb7_:=hall 7 (by kernel_rfl);subst ha;obtain rfl:=Q_X6_ hb6_;simp only [putSel,hb0_,hb1_,hb2_,hb3_,hb4_,hb5_,hb6_,hb7_,if_true,Act.put,List.setIfInBounds_toArray,List.set_cons_zero,List.set_cons_succ];have BK276:=AM Q_BK276;clear Q_BK276;have HB:=AM Q_HB;clear Q_HB;have HO279:=AM (Q_HO279 hb0_);clear Q_HO279;clear hall hb0_ hb1_ hb2_ hb3_ hb4_ hb5_ hb6_ hb7_;try go_wp2
 go_loopg [3,15] k (fun kq v3 v15 w'=>∃ (x3_1 : List (List Int)) (x15_1 : Int),v15 = .int .i64 x15_1∧Aside0 (impl_square_cells.l0 kq x3_1 (wrap64 (t280 * t281)) (wrap64 (t280 * t281)) x15_1 a0_0 = some r)∧Aside0 (kq ≤ k)∧Aside0 (Kd.S (Kd.slice 3 (Kd.int .i64)) 24 w' w.heap.size (fun _=>True) v3 x3_1)∧Aside0 (w'.heap[gb276]? = some (.cells #[.int .i64 a0_0] 43 (0,0)))∧Aside0 (Below w.heap.size w w'))
 case atStart=>exact ⟨(y277),(0),RF,H',⟨Nat.le_refl _⟩,⟨KS HO279⟩,⟨by (with_reducible repeat (first|refine blk_drewN ?_ _|refine blk_drew ?_|refine blk_alloc ?_ _));exact BK276.out⟩,⟨AGE GE276⟩⟩
 case round =>
  clear H';try clear c2
  try clear p2
  try clear c4
  try clear p6
  obtain ⟨x3_1,x15_1,rfl,HA,HK1,HO_3,BK276,HB⟩:=hrel;cases gk with
  | zero=>exact absurd HA.out (by simp [impl_square_cells.l0])
  | succ k1 =>
   have H:=HA.out;clear HA;simp only [impl_square_cells.l0] at H;by_cases c11 : x15_1 < (wrap64 (t280 * t281))
   ·rw [if_pos c11] at H;have c11b0:=DT c11;clear c11;have H':=AM H;clear H;go_wp2;go_loopg [3,6] k1 (fun kq v3 v6 w'=>∃ (x3_2 : List (List Int)) (x6_2 : Int),v6 = .int .i64 x6_2∧Aside0 (impl_square_cells.l1 kq x3_2 (wrap64 (t280 * t281)) x15_1 x6_2 (wrap64 (t280 * t281)) x15_1 a0_0 = some r)∧Aside0 (kq ≤ k1)∧Aside0 (Kd.S (Kd.slice 3 (Kd.int .i64)) 24 w' w.heap.size (fun _=>True) v3 x3_2)∧Aside0 (w'.heap[gb276]? = some (.cells #[.int .i64 a0_0] 43 (0,0)))∧Aside0 (Below w.heap.size w w'))
    case atStart=>exact ⟨(x3_1),(wrap64 (x15_1 + 1)),RF,H',⟨Nat.le_refl _⟩,⟨KS HO_3⟩,⟨by (with_reducible repeat (first|refine blk_drewN ?_ _|refine blk_drew ?_|refine blk_alloc ?_ _));exact BK276.out⟩,⟨AGE GE276⟩⟩
    case round =>
     clear H';try clear c1
     try clear c2
     try clear p2
     try clear c4
     try clear p6
     try clear c11
     try clear c11b0
     try clear p2
     try clear p6
     obtain ⟨x3_2,x6_2,rfl,HA,HK2,HO_3,BK276,HB⟩:=hrel;cases gk with
     | zero=>exact absurd HA.out (by simp [impl_square_cells.l1])
     | succ k2 =>
      have H:=HA.out;clear HA;simp only [impl_square_cells.l1] at H;by_cases c12 : x6_2 < (wrap64 (t280 * t281))
      ·rw [if_pos c12] at H;have c12b0:=DT c12;clear c12;have H':=AM H;clear H;go_wp2;go_loopg [3,7] k2 (fun kq v3 v7 w'=>∃ (x3_3 : List (List Int)) (x7_3 : Int),v7 = .int .i64 x7_3∧Aside0 (impl_square_cells.l2 kq x3_3 (wrap64 (t280 * t281)) x15_1 x6_2 x7_3 (wrap64 (t280 * t281)) x15_1 a0_0 = some r)∧Aside0 (kq ≤ k2)∧Aside0 (Kd.S (Kd.slice 3 (Kd.int .i64)) 24 w' w.heap.size (fun _=>True) v3 x3_3)∧Aside0 (w'.heap[gb276]? = some (.cells #[.int .i64 a0_0] 43 (0,0)))∧Aside0 (Below w.heap.size w w'))
       case atStart=>exact ⟨(x3_2),(wrap64 (x6_2 + 1)),RF,H',⟨Nat.le_refl _⟩,⟨KS HO_3⟩,⟨by (with_reducible repeat (first|refine blk_drewN ?_ _|refine blk_drew ?_|refine blk_alloc ?_ _));exact BK276.out⟩,⟨AGE GE276⟩⟩
       case round =>
        clear H';try clear c1
        try clear c2
        try clear p2
        try clear c4
        try clear p6
        try clear c11
        try clear c11b0
        try clear c12
        try clear c12b0
        try clear p2
        try clear p6
        obtain ⟨x3_3,x7_3,rfl,HA,HK3,HO_3,BK276,HB⟩:=hrel;cases gk with
        | zero=>exact absurd HA.out (by simp [impl_square_cells.l2])
        | succ k3 =>
         have H:=HA.out;clear HA;simp only [impl_square_cells.l2] at H;have HC13:=AM H;clear H;go_upto_region 9 with (fail)
         go_cut [35] (fun v35 wc=>∃ (kq : Nat) (x35_12 : Bool),v35 = .bool x35_12∧Aside0 (impl_square_cells.j3 kq x3_3 (wrap64 (t280 * t281)) x15_1 x6_2 x7_3 (wrap64 (t280 * t281)) x15_1 x35_12 a0_0 = some r)∧Aside0 (kq ≤ k3)∧Aside0 (Kd.S (Kd.slice 3 (Kd.int .i64)) 24 wc w.heap.size (fun _=>True) u3 x3_3)∧Aside0 (wc.heap[gb276]? = some (.cells #[.int .i64 a0_0] 43 (0,0)))∧Aside0 (Below w.heap.size w wc))
         case first =>
          have H:=HC13.out;clear HC13;by_cases c14 : x7_3 < (wrap64 (t280 * t281))
          ·rw [if_pos c14] at H;have c14b0:=DT c14;clear c14
           (first|rw [c14b0]|(simp only [i64_w,i32_w];rw [c14b0])|skip);replace H:=EA H;obtain ⟨t282,A15,H⟩:=H;have H':=AM H;clear H;have hcz16_0 : wr.cell? ⟨gb276,0,none⟩ = some (.int .i64 a0_0):=(BC BK276.out 0).trans rfl;have hfz16_0:=BF BK276.out 0;go_wp2_with (first|(go_at_call 36;(with_reducible refine (impl_square_areNear.calls a0_0 x15_1 x6_2 t282 _ A15.out).mono ?_);rintro e w17 ⟨rfl,hb⟩;replace HO_3:=SB HO_3 hb;replace BK276:=AM (blk_below (g:=gb276) (o:=.cells #[.int .i64 a0_0] 43 (0,0)) (BW BK276) hb);replace HB:=HG GE276 hb;try clear hb));go_meet
           case rel=>exact ⟨_,(t282),RF,H',⟨by have:=HK1.out;have:=HK2.out;have:=HK3.out;first|omega|exact Nat.le_refl _⟩,⟨KS HO_3⟩,⟨by (with_reducible repeat (first|refine blk_drewN ?_ _|refine blk_drew ?_|refine blk_alloc ?_ _));exact BK276.out⟩,⟨AGE GE276⟩⟩
          ·rw [if_neg c14] at H;have c14b0:=DF c14;clear c14
           (first|rw [c14b0]|(simp only [i64_w,i32_w];rw [c14b0])|skip);have H':=AM H;clear H;go_wp2;go_meet
           case rel=>exact ⟨_,(false),RF,H',⟨by have:=HK1.out;have:=HK2.out;have:=HK3.out;first|omega|exact Nat.le_refl _⟩,⟨KS HO_3⟩,⟨by (with_reducible repeat (first|refine blk_drewN ?_ _|refine blk_drew ?_|refine blk_alloc ?_ _));exact BK276.out⟩,⟨AGE GE276⟩⟩
         case rest =>
          clear HC13;try clear c1
          try clear c2
          try clear p2
          try clear c4
          try clear p6
          try clear c11
          try clear c11b0
          try clear c12
          try clear c12b0
          try clear c14
          try clear c14b0
          try clear hcz16_0
          try clear hfz16_0
          try clear p2
          try clear p6
          obtain ⟨kq,x35_12,rfl,HA,HJ12,HO_3,BK276,HB⟩:=hcut;cases kq with
          | zero=>exact absurd HA.out (by simp [impl_square_cells.j3])
          | succ kj12 =>
           have H:=HA.out;clear HA;simp only [impl_square_cells.j3] at H;by_cases c18 : x35_12 = true
           ·subst c18;replace H:=IP H;replace H:=EA H;obtain ⟨t283,A19,H⟩:=H;by_cases c20 : t283 = true
            ·subst c20;replace H:=IP H;replace H:=EA H;obtain ⟨t284,A21,H⟩:=H;by_cases c22 : t284 = true
             ·subst c22;replace H:=IP H;obtain ⟨y285,hy285⟩ : ∃ y_ : List Int,y_ = (([x15_1,x6_2,x7_3] : List Int)):=⟨_,rfl⟩;replace H : (if x3_3.length < 5864062014805 then (impl_square_cells.l2 kj12 (x3_3 ++ [y285]) (wrap64 (t280 * t281)) x15_1 x6_2 (wrap64 (x7_3 + 1)) (wrap64 (t280 * t281)) x15_1 a0_0) else (none)) = some r:=HY H hy285;have Ny285:=AM hy285;clear hy285;replace H:=IC H;obtain ⟨c23,H⟩:=H;have LMc23:=AM c23;clear c23;obtain ⟨y288,hy288⟩ : ∃ y_ : List (List Int),y_ = (x3_3 ++ [y285]):=⟨_,rfl⟩;replace H : (impl_square_cells.l2 kj12 y288 (wrap64 (t280 * t281)) x15_1 x6_2 (wrap64 (x7_3 + 1)) (wrap64 (t280 * t281)) x15_1 a0_0) = some r:=HY H hy288;have Ny288:=AM hy288;clear hy288;have H':=AM H;clear H;have hcz24_0 : wc.cell? ⟨gb276,0,none⟩ = some (.int .i64 a0_0):=(BC BK276.out 0).trans rfl;have hfz24_0:=BF BK276.out 0;go_wp2_with (first|(refine GC 36 ?_;refine GM (some 41) Try.func36 (impl_square_areNear.calls a0_0 x15_1 x7_3 true _ A19.out) ?_;rintro e w25 ⟨rfl,hb⟩;refine ⟨_,rfl,?_⟩;replace HO_3:=SB HO_3 hb;replace BK276:=AM (blk_below (g:=gb276) (o:=.cells #[.int .i64 a0_0] 43 (0,0)) (BW BK276) hb);replace HB:=HG GE276 hb;try clear hb;have hcz26_0 : w25.cell? ⟨gb276,0,none⟩ = some (.int .i64 a0_0):=(BC BK276.out 0).trans rfl;have hfz26_0:=BF BK276.out 0)|(go_at_call 36;(with_reducible refine (impl_square_areNear.calls a0_0 x6_2 x7_3 true _ A21.out).mono ?_);rintro e w27 ⟨rfl,hb⟩;replace HO_3:=SB HO_3 hb;replace BK276:=AM (blk_below (g:=gb276) (o:=.cells #[.int .i64 a0_0] 43 (0,0)) (BW BK276) hb);replace HB:=HG GE276 hb;try clear hb)|((with_reducible refine gate_dst (N:=52) rfl ?_);refine Kd.R_lit (Kd.int .i64) _ 3 ?hg (N:=52) ?hd (xs:=([x15_1,x6_2,x7_3] : List Int)) (inner:=[.int .i64 x15_1,.int .i64 x6_2,.int .i64 x7_3]) (ok:=fun _=>True) (okp:=fun _=>True) ?hr ?hp (fun _ hk=>hk) trivial (Below.refl _ _) (Nat.le_refl _) (by simp) ?_;(case hd=>rfl);(case hg=>rfl);(case hr=>exact GS);(case hp=>exact (Reps.one (show Kd.M (Kd.int .i64) _ _ _ x15_1 [.int .i64 x15_1] from rfl) (Reps.one (show Kd.M (Kd.int .i64) _ _ _ x6_2 [.int .i64 x6_2] from rfl) (Reps.one (show Kd.M (Kd.int .i64) _ _ _ x7_3 [.int .i64 x7_3] from rfl) (Reps.none _ _)))));intro v286 w28 ho29 hb hg_ hnew_;clear hg_ hnew_;(first|rw [← Ny285.out] at ho29|(simp only [Int.reduceToNat] at ho29;rw [← Ny285.out] at ho29));replace HO_3:=SO HO_3 ho29 hb;have HO287:=AM (Kd.R_lower ho29 (BZ (AGE GE276)));replace BK276:=AM (blk_below (g:=gb276) (o:=.cells #[.int .i64 a0_0] 43 (0,0)) (BW BK276) hb);replace HB:=HG GE276 hb;clear hb ho29;obtain ⟨Ao31,co31,eo31⟩:=Kd.R_slice HO287.out;subst eo31)|((with_reducible refine gate_builtin (b:=.append) (xs:=#[.tmp 48,.tmp 53]) rfl ?_);at_builtin;refine Kd.S_append (Kd.slice 3 (Kd.int .i64)) (w0:=w) w.heap.size rfl (.tmp 48) (.tmp 53) 31 24 (.slice none 0 0) 24 rfl Try.underlying31 info24 rfl (by decide) (by omega) u3 x3_3 y285 [.slice Ao31 y285.length co31] (fun _=>True) (fun k_=>some k_ = (.slice Ao31 y285.length co31 : Value).ownBlock) rfl rfl ?aP (fun k_ hk_=>((Kd.R_mono (ok':=fun k_=>((fun _=>True)) k_∧some k_≠(u3 : Value).ownBlock) (Kd.R_apart' (HO287.out) (Kd.S_typed HO_3.out) (by decide)) (fun k_ hk=>⟨trivial,hk.2⟩))).1 k_ hk_.symm) ?aF ?aO ?aB ?aS ?aL ?_;(case aP=>exact Kd.M_row (Kd.R_mono (Kd.R_tight rfl (Kd.R_mono (ok':=fun k_=>((fun _=>True)) k_∧some k_≠(u3 : Value).ownBlock) (Kd.R_apart' (HO287.out) (Kd.S_typed HO_3.out) (by decide)) (fun k_ hk=>⟨trivial,hk.2⟩))) (fun _ h_=>h_)));(case aB=>exact (AGE GE276));(case aF=>exact (fun _ _=>trivial));(case aO=>exact (by (with_reducible repeat (first|apply Kd.S_alloc|apply Kd.S_drewN|apply Kd.S_drew));exact Kd.S_mono HO_3.out (fun k_ hk=>⟨trivial,fun e_=>hk.2 e_⟩)));(case aS=>exact (BZ (AGE GE276)));(case aL=>have:=LMc23.out;omega);intro v289 w30 ho hb hg hat;rw [← Ny288.out] at ho;replace BK276:=AM (blk_grown (g:=gb276) (o:=.cells #[.int .i64 a0_0] 43 (0,0)) (BW BK276) hg (Kd.S_ne HO_3.out BK276.out (by decide)));replace HB:=AM hb;have HO290:=AM ho;clear HO_3 HO287;clear ho hb hg hat));go_roundg kj12
              case measure=>have:=HK1.out;have:=HK2.out;have:=HK3.out;have:=HJ12.out;omega
              case rel=>exact ⟨(y288),(wrap64 (x7_3 + 1)),RF,H',⟨by have:=HK1.out;have:=HK2.out;have:=HK3.out;have:=HJ12.out;omega⟩,⟨KS HO290⟩,⟨by (with_reducible repeat (first|refine blk_drewN ?_ _|refine blk_drew ?_|refine blk_alloc ?_ _));exact BK276.out⟩,⟨AGE GE276⟩⟩
             ·replace c22:=NF c22;subst c22;replace H:=IN H;have H':=AM H;clear H;have hcz32_0 : wc.cell? ⟨gb276,0,none⟩ = some (.int .i64 a0_0):=(BC BK276.out 0).trans rfl;have hfz32_0:=BF BK276.out 0;go_wp2_with (first|(refine GC 36 ?_;refine GM (some 41) Try.func36 (impl_square_areNear.calls a0_0 x15_1 x7_3 true _ A19.out) ?_;rintro e w33 ⟨rfl,hb⟩;refine ⟨_,rfl,?_⟩;replace HO_3:=SB HO_3 hb;replace BK276:=AM (blk_below (g:=gb276) (o:=.cells #[.int .i64 a0_0] 43 (0,0)) (BW BK276) hb);replace HB:=HG GE276 hb;try clear hb;have hcz34_0 : w33.cell? ⟨gb276,0,none⟩ = some (.int .i64 a0_0):=(BC BK276.out 0).trans rfl;have hfz34_0:=BF BK276.out 0)|(go_at_call 36;(with_reducible refine (impl_square_areNear.calls a0_0 x6_2 x7_3 false _ A21.out).mono ?_);rintro e w35 ⟨rfl,hb⟩;replace HO_3:=SB HO_3 hb;replace BK276:=AM (blk_below (g:=gb276) (o:=.cells #[.int .i64 a0_0] 43 (0,0)) (BW BK276) hb);replace HB:=HG GE276 hb;try clear hb));go_roundg kj12
              case measure=>have:=HK1.out;have:=HK2.out;have:=HK3.out;have:=HJ12.out;omega
              case rel=>exact ⟨(x3_3),(wrap64 (x7_3 + 1)),RF,H',⟨by have:=HK1.out;have:=HK2.out;have:=HK3.out;have:=HJ12.out;omega⟩,⟨KS HO_3⟩,⟨by (with_reducible repeat (first|refine blk_drewN ?_ _|refine blk_drew ?_|refine blk_alloc ?_ _));exact BK276.out⟩,⟨AGE GE276⟩⟩
            ·replace c20:=NF c20;subst c20;replace H:=IN H;have H':=AM H;clear H;have hcz36_0 : wc.cell? ⟨gb276,0,none⟩ = some (.int .i64 a0_0):=(BC BK276.out 0).trans rfl;have hfz36_0:=BF BK276.out 0;go_wp2_with (first|(refine GC 36 ?_;refine GM (some 41) Try.func36 (impl_square_areNear.calls a0_0 x15_1 x7_3 false _ A19.out) ?_;rintro e w37 ⟨rfl,hb⟩;refine ⟨_,rfl,?_⟩;replace HO_3:=SB HO_3 hb;replace BK276:=AM (blk_below (g:=gb276) (o:=.cells #[.int .i64 a0_0] 43 (0,0)) (BW BK276) hb);replace HB:=HG GE276 hb;try clear hb));go_roundg kj12
             case measure=>have:=HK1.out;have:=HK2.out;have:=HK3.out;have:=HJ12.out;omega
             case rel=>exact ⟨(x3_3),(wrap64 (x7_3 + 1)),RF,H',⟨by have:=HK1.out;have:=HK2.out;have:=HK3.out;have:=HJ12.out;omega⟩,⟨KS HO_3⟩,⟨by (with_reducible repeat (first|refine blk_drewN ?_ _|refine blk_drew ?_|refine blk_alloc ?_ _));exact BK276.out⟩,⟨AGE GE276⟩⟩
           ·replace c18:=NF c18;subst c18;replace H:=IN H;have H':=AM H;clear H;go_wp2;go_roundg kj12
            case measure=>have:=HK1.out;have:=HK2.out;have:=HK3.out;have:=HJ12.out;omega
            case rel=>exact ⟨(x3_3),(wrap64 (x6_2 + 1)),RF,H',⟨by have:=HK1.out;have:=HK2.out;have:=HK3.out;have:=HJ12.out;omega⟩,⟨KS HO_3⟩,⟨by (with_reducible repeat (first|refine blk_drewN ?_ _|refine blk_drew ?_|refine blk_alloc ?_ _));exact BK276.out⟩,⟨AGE GE276⟩⟩
      ·rw [if_neg c12] at H;have c12b0:=DF c12;clear c12;have H':=AM H;clear H;go_wp2;go_roundg k2
       case measure=>have:=HK1.out;have:=HK2.out;omega
       case rel=>exact ⟨(x3_2),(wrap64 (x15_1 + 1)),RF,H',⟨by have:=HK1.out;have:=HK2.out;omega⟩,⟨KS HO_3⟩,⟨by (with_reducible repeat (first|refine blk_drewN ?_ _|refine blk_drew ?_|refine blk_alloc ?_ _));exact BK276.out⟩,⟨AGE GE276⟩⟩
   ·rw [if_neg c11] at H;have c11b0:=DF c11;clear c11;obtain rfl:=Option.some.inj H;go_wp2;go_ret;exact ⟨_,RE,KS HO_3,AGE GE276⟩

-- NOT PRINTED: function 72 (slices_IndexFunc_int_int_72)

/-! ### impl_signDoor: function 52 -/
def impl_signDoor.f (a0 : Int) (a1 : Int) : Option (Bool):=if (wrap64 (a0 + a1)) = 3 then (some ((wrap64 (a0 * a1)) == 2)) else (some false)
theorem impl_signDoor.calls (a0 : Int) (a1 : Int) (r : Bool) (w : World) (h : impl_signDoor.f a0 a1 = some r) :
  Calls Try.prog 52 #[.int .i64 a0,.int .i64 a1] w fun e w'=>e = .returned (.bool r)∧Drawn0 w w':=by
 have H : (if (wrap64 (a0 + a1)) = 3 then (some ((wrap64 (a0 * a1)) == 2)) else (some false)) = some r:=h;clear h;by_cases c3 : (wrap64 (a0 + a1)) = 3
 ·rw [if_pos c3] at H;have c3b0:=QT c3;have c3b1:=bne_eq_false_iff_eq.mpr c3;clear c3;obtain rfl:=Option.some.inj H;go_enter Try.func52,Try.ntmps52;go_wp2;go_ret;exact ⟨RF,DR⟩
 ·rw [if_neg c3] at H;have c3b0:=beq_eq_false_iff_ne.mpr c3;have c3b1:=bne_iff_ne.mpr c3;obtain rfl:=Option.some.inj H;go_enter Try.func52,Try.ntmps52;go_wp2;go_ret;exact ⟨RF,DR⟩

/-! ### impl_squareDoors_1: function 51 -/
def impl_squareDoors_1.f (l0 : List Int) (l1 : List (List Int)) : Option (Bool):=if 0 < (l1.length : Int) then (if 0 < (l0.length : Int) then (if 0 ≤ (rd l0 0) then (if (rd l0 0) < ((rd_L2 l1 0).length : Int) then (if 1 < (l0.length : Int) then (if 0 ≤ (rd l0 1) then (if (rd l0 1) < ((rd_L2 l1 0).length : Int) then ((impl_signDoor.f (rd (rd_L2 l1 0) (rd l0 0)) (rd (rd_L2 l1 0) (rd l0 1))).bind fun t297=>(some (!t297))) else (none)) else (none)) else (none)) else (none)) else (none)) else (none)) else (none)
theorem impl_squareDoors_1.calls (A0 : Option Addr) (c0 : Nat) (l0 : List Int) (A1 : Option Addr) (c1 : Nat) (l1 : List (List Int)) (r : Bool) (w : World) (hr0 : Kd.C (Kd.int .i64) w A0 l0.length l0) (hc0 : l0.length ≤ c0) (hr1 : Kd.C (Kd.slice 3 (Kd.int .i64)) w A1 l1.length l1) (hc1 : l1.length ≤ c1) (h : impl_squareDoors_1.f l0 l1 = some r) :
  Calls Try.prog 51 #[.slice A0 l0.length c0,.pointer A1] w fun e w'=>e = .returned (.bool r)∧Drawn0 w w':=by
 have HR0:=AM hr0;have HC0:=AM hc0;clear hr0 hc0;have HR1:=AM hr1;have HC1:=AM hc1;clear hr1 hc1;have H : (if 0 < (l1.length : Int) then (if 0 < (l0.length : Int) then (if 0 ≤ (rd l0 0) then (if (rd l0 0) < ((rd_L2 l1 0).length : Int) then (if 1 < (l0.length : Int) then (if 0 ≤ (rd l0 1) then (if (rd l0 1) < ((rd_L2 l1 0).length : Int) then ((impl_signDoor.f (rd (rd_L2 l1 0) (rd l0 0)) (rd (rd_L2 l1 0) (rd l0 1))).bind fun t297=>(some (!t297))) else (none)) else (none)) else (none)) else (none)) else (none)) else (none)) else (none)) = some r:=h;clear h;replace H:=IC H;obtain ⟨c3,H⟩:=H;have c3b0:=DT c3;have c3b1 : decide (0 < l1.length) = true:=DT (by omega);clear c3;replace H:=IC H;obtain ⟨c4,H⟩:=H;have c4b0:=DT c4;have c4b1 : decide (0 < l0.length) = true:=DT (by omega);clear c4;replace H:=IC H;obtain ⟨c5,H⟩:=H;have c5b0:=DT c5;clear c5;replace H:=IC H;obtain ⟨c6,H⟩:=H;have c6b0:=DT c6;clear c6;replace H:=IC H;obtain ⟨c7,H⟩:=H;have c7b0:=DT c7;have c7b1 : decide (1 < l0.length) = true:=DT (by omega);clear c7;replace H:=IC H;obtain ⟨c8,H⟩:=H;have c8b0:=DT c8;clear c8;replace H:=IC H;obtain ⟨c9,H⟩:=H;have c9b0:=DT c9;clear c9;replace H:=EA H;obtain ⟨t297,A10,H⟩:=H;obtain rfl:=Option.some.inj H;have p291 : 0 ≤ (0 : Int):=(by omega);have q291 : 0 < (l1.length : Int):=OD AS;obtain ⟨ad291,A291_0,c291_0,e291,hx291_0,hl291_0,hi291_0⟩:=at_L2 HR1.out 0 p291 q291;cases e291;have qi291 : (0 < l1.length) = True:=ET (by omega)
 (try rw [show ((0 : Int)).toNat = 0 from rfl] at hx291_0)
 (try rw [Addr.add_zero'] at hx291_0);have HR291_0:=AM hi291_0;have HC291_0:=AM hl291_0;clear hi291_0 hl291_0;replace p291:=ET p291;replace q291:=ET q291;have p292 : 0 ≤ (0 : Int):=(by omega);have q292 : 0 < (l0.length : Int):=OD AS;obtain ⟨ad292,e292,hx292_0⟩:=Kd.at_int HR0.out 0 p292 q292;cases e292;have qi292 : (0 < l0.length) = True:=ET (by omega)
 (try rw [show ((0 : Int)).toNat = 0 from rfl] at hx292_0)
 (try rw [Addr.add_zero'] at hx292_0);replace p292:=ET p292;replace q292:=ET q292;have p293 : 0 ≤ ((rd l0 0) : Int):=OD AS;have q293 : (rd l0 0) < ((rd_L2 l1 0).length : Int):=OD AS;obtain ⟨ad293,e293,hx293_0⟩:=Kd.at_int HR291_0.out (rd l0 0) p293 q293;cases e293;replace p293:=ET p293;replace q293:=ET q293;have p294 : 0 ≤ (0 : Int):=(by omega);have q294 : 0 < (l1.length : Int):=OD AS;obtain ⟨ad294,A294_0,c294_0,e294,hx294_0,hl294_0,hi294_0⟩:=at_L2 HR1.out 0 p294 q294;obtain rfl : ad291 = ad294:=(by injection e294);have qi294 : (0 < l1.length) = True:=ET (by omega)
 (try rw [show ((0 : Int)).toNat = 0 from rfl] at hx294_0)
 (try rw [Addr.add_zero'] at hx294_0);have HR294_0:=AM hi294_0;have HC294_0:=AM hl294_0;clear hi294_0 hl294_0;replace p294:=ET p294;replace q294:=ET q294;have ea_:=Option.some.inj (hx291_0.symm.trans hx294_0);injection ea_ with ea_ en_ ec_
 subst ea_;subst ec_;clear en_;have p295 : 0 ≤ (1 : Int):=(by omega);have q295 : 1 < (l0.length : Int):=OD AS;obtain ⟨ad295,e295,hx295_0⟩:=Kd.at_int HR0.out 1 p295 q295;obtain rfl : ad292 = ad295:=(by injection e295)
 (try simp only [show (1 : Int).toNat = 1 from rfl,Nat.reduceMul,Nat.reduceEqDiff,Go.Addr.add,↓reduceIte] at hx295_0);have qi295 : (1 < l0.length) = True:=ET (by omega)
 (try rw [show ((1 : Int)).toNat = 1 from rfl] at hx295_0);replace p295:=ET p295;replace q295:=ET q295;have p296 : 0 ≤ ((rd l0 1) : Int):=OD AS;have q296 : (rd l0 1) < ((rd_L2 l1 0).length : Int):=OD AS;obtain ⟨ad296,e296,hx296_0⟩:=Kd.at_int HR294_0.out (rd l0 1) p296 q296;cases e296;replace p296:=ET p296;replace q296:=ET q296;go_enter Try.func51,Try.ntmps51;go_wp2_with (first|(go_at_call 52;(with_reducible refine (impl_signDoor.calls (rd (rd_L2 l1 0) (rd l0 0)) (rd (rd_L2 l1 0) (rd l0 1)) t297 _ A10.out).mono ?_);rintro e w' ⟨rfl,⟨nd,rfl⟩⟩;(try exact DW)));repeat (go_quiet (first|(go_at_call 52;(with_reducible refine (impl_signDoor.calls (rd (rd_L2 l1 0) (rd l0 0)) (rd (rd_L2 l1 0) (rd l0 1)) t297 _ A10.out).mono ?_);rintro e w' ⟨rfl,⟨nd,rfl⟩⟩;(try exact DW)));try go_wp2_with (first|(go_at_call 52;(with_reducible refine (impl_signDoor.calls (rd (rd_L2 l1 0) (rd l0 0)) (rd (rd_L2 l1 0) (rd l0 1)) t297 _ A10.out).mono ?_);rintro e w' ⟨rfl,⟨nd,rfl⟩⟩;(try exact DW))))
 go_ret;exact ⟨RF,DR⟩

/-! ### impl_squareDoors: function 25 (given) -/
def impl_squareDoors.q (l1 : List Int) (x : List Int) : Bool:=(impl_squareDoors_1.f x [l1]).getD false
def impl_squareDoors.f (k : Nat) (a0 : Int) (l1 : List Int) : Option (List (List Int)):=(impl_square_steps.f k a0).bind fun t=>if ((t.all fun x=>(impl_squareDoors_1.f x [l1]).isSome) && decide (t.length ≤ 9223372036854775807)) = true then some (t.filter fun x=>!impl_squareDoors.q l1 x) else none
theorem impl_squareDoors.mono : ∀ a0 a1 k,LeO (impl_squareDoors.f k a0 a1) (impl_squareDoors.f (k + 1) a0 a1):=by
 intro a0 a1 k;unfold impl_squareDoors.f;exact LeO.bind (impl_square_steps.mono _ _) (fun _=>LeO.refl _)
theorem impl_squareDoors.cl {A1 : Option Addr} {c1 : Nat} {l1 : List Int} {w1 w2 : World} {gb : Nat} {ok : Nat→Prop} {v0 : Value} {t : List (List Int)}
  (hX : w1.heap[gb]? = some (.cells #[.slice A1 l1.length c1] 24 (0,0))) (hb2 : Below w1.heap.size w1 w2) (hS : Kd.S (Kd.slice 3 (Kd.int .i64)) 24 w2 w1.heap.size ok v0 t)
  (hr1 : Kd.C (Kd.int .i64) w1 A1 l1.length l1) (hc1 : l1.length ≤ c1)
  (hall : (t.all fun x=>(impl_squareDoors_1.f x [l1]).isSome) = true) :
  ∀ x ∈ t,∀ (A : Option Addr) (c : Nat) (W : World),W.os = w2.os→W.tape = w2.tape→W.output = w2.output→Kept w2 W (fun k=>some k = v0.ownBlock)→Kd.C (Kd.int .i64) W A x.length x→x.length ≤ c →
   Calls Try.prog 51 (#[.slice A x.length c] ++ #[.pointer (some ⟨gb,0,none⟩)]) W fun e W'=>e = .returned (.bool (impl_squareDoors.q l1 x))∧Below W.heap.size W W':=by
 intro x hx A c W hos htp hout hK hC hlc;have hgb : gb < w1.heap.size:=blk_lt hX;have hv0 : ∀ q,v0.ownBlock = some q→w1.heap.size ≤ q:=fun q hq=>Kd.R_base (Kd.S_R hS) q hq
 have hblk : ∀ q,q < w1.heap.size→W.heap[q]? = w1.heap[q]?:=fun q hq=>(hK.2 q (Nat.lt_of_lt_of_le hq hb2.size) (fun e=>by have:=hv0 q e.symm;omega)).trans (hb2.block q hq)
 have hBW : Below w1.heap.size w1 W:=⟨hos.trans hb2.os,htp.trans hb2.tape,hout.trans hb2.output,Nat.le_trans hb2.size hK.1,hblk⟩
 have hsome : (impl_squareDoors_1.f x [l1]) = some (impl_squareDoors.q l1 x):=by
  have h1:=List.all_eq_true.1 hall x hx;unfold impl_squareDoors.q;obtain ⟨b,hb⟩:=Option.isSome_iff_exists.1 h1;rw [hb];rfl
 show Calls Try.prog 51 #[.slice A x.length c,.pointer (some ⟨gb,0,none⟩)] W _
 refine (impl_squareDoors_1.calls A c x (some ⟨gb, 0, none⟩) 1 [l1] (impl_squareDoors.q l1 x) W hC hlc
  (Kd.C_box (Kd.slice 3 (Kd.int .i64)) (g := gb) (t := 24) (cs := #[.slice A1 l1.length c1]) ((hblk gb hgb).trans hX)
   ⟨A1,c1,rfl,hc1,Kd.C_below hr1 hBW⟩)
  (Nat.le_refl _) hsome).mono ?_
 rintro e W' ⟨rfl,⟨nd,rfl⟩⟩;exact ⟨rfl,by apply pw_below_drewN;exact Below.refl _ _⟩
theorem impl_squareDoors.calls (k : Nat) (a0 : Int) (A1 : Option Addr) (c1 : Nat) (l1 : List Int) (r : List (List Int)) (w : World) (hr1 : Kd.C (Kd.int .i64) w A1 l1.length l1) (hc1 : l1.length ≤ c1) (h : impl_squareDoors.f k a0 l1 = some r) :
  Calls Try.prog 25 #[.int .i64 a0,.slice A1 l1.length c1] w fun e w'=>∃ v0_ : Value,e = .returned (v0_)∧Kd.S (Kd.slice 3 (Kd.int .i64)) 24 w' w.heap.size (fun _=>True) v0_ r∧Below w.heap.size w w':=by
 have hu:=Try.underlying43;have HR1:=AM hr1;have HC1:=AM hc1;clear hr1 hc1;unfold impl_squareDoors.f at h;obtain ⟨t,ht,h2⟩:=Option.bind_eq_some_iff.mp h;clear h;have HT:=AM ht;clear ht;by_cases hc : ((t.all fun x=>(impl_squareDoors_1.f x [l1]).isSome) && decide (t.length ≤ 9223372036854775807)) = true
 ·rw [if_pos hc] at h2;have HRR:=AM (Option.some.inj h2);have HC:=AM hc;clear h2 hc;have eg : ∀ args w,(callFunc 51 args).run Try.prog w = .ok (.enter 51 args) w:=Go.Proofs.enters_of Try.func51 (by kernel_rfl) rfl;have HEG:=AM eg;clear eg;go_enter Try.func25,Try.ntmps25
  go_wp2_with (first
   | ((with_reducible refine gate_dst (N:=3) rfl ?_);refine box_event ?hg (N:=3) ?hd (cs:=#[.slice A1 l1.length c1]) (t:=24) ?hr ?_;(case hd=>rfl);(case hg=>rfl);(case hr=>exact GS);intro gb hg w1 hbox hb;have HB1:=AM hb;have HX:=AM hbox;have HG:=AM hg;clear hb hbox hg)
   | (go_at_call 22;refine (impl_square_steps.calls k a0 t w1 HT.out).mono ?_;rintro e w2 ⟨v0,rfl,hS,hb2⟩;have HS:=AM hS;have HB2:=AM hb2;clear hS hb2)
   | (go_at_call 50;refine (deleteS 51 #[.pointer (some ⟨gb,0,none⟩)] HEG.out (impl_squareDoors.q l1) HS.out (OD (Bool.and_eq_true_iff.1 HC.out).2) (impl_squareDoors.cl HX.out HB2.out HS.out (Kd.C_below HR1.out HB1.out) HC1.out (Bool.and_eq_true_iff.1 HC.out).1)).mono ?_;rintro e w3 ⟨v1,rfl,hS3,hob,hos,htp,hout,hK⟩;have HS3:=AM hS3;have HE:=AM (And.intro hob (And.intro hos (And.intro htp (And.intro hout hK))));clear hS3 hob hos htp hout hK))
  go_ret;have hE:=HE.out;have hv0 : ∀ q,v0.ownBlock = some q→w1.heap.size ≤ q:=fun q hq=>Kd.R_base (Kd.S_R HS.out) q hq
  have h1:=HB1.out.size;have hS3:=Kd.S_lower HS3.out HB1.out.size;rw [HRR.out] at hS3;refine ⟨v1,rfl,hS3,?_⟩;have hK:=hE.2.2.2.2
  exact ⟨(hE.2.1.trans HB2.out.os).trans HB1.out.os,(hE.2.2.1.trans HB2.out.tape).trans HB1.out.tape,(hE.2.2.2.1.trans HB2.out.output).trans HB1.out.output,Nat.le_trans h1 (Nat.le_trans HB2.out.size hK.1),
   fun q hq=>((hK.2 q (Nat.lt_of_lt_of_le hq (Nat.le_trans h1 HB2.out.size)) (fun e=>by have:=hv0 q e.symm;omega)).trans (HB2.out.block q (Nat.lt_of_lt_of_le hq h1))).trans (HB1.out.block q hq)⟩
 ·rw [if_neg hc] at h2;cases h2

/-! ### slices_Index_int_int: function 77 -/
def slices_Index_int_int.l0 : Nat→List Int→Int→Int→Int→Option (Int)
 | 0,_,_,_,_=>none
 | k + 1,x0,x1,x7,x8=>if x8 < x7 then (if 0 ≤ x8 then (if x8 < (x0.length : Int) then (if x1 = (rd x0 x8) then (some x8) else (slices_Index_int_int.l0 k x0 x1 x7 (wrap64 (x8 + 1)))) else (none)) else (none)) else (some (-1))
def slices_Index_int_int.f (k : Nat) (l0 : List Int) (a1 : Int) : Option (Int):=slices_Index_int_int.l0 k l0 a1 (l0.length : Int) 0
theorem slices_Index_int_int.mono_l : ∀ k,(∀ y0 y1 y2 y3,LeO (slices_Index_int_int.l0 k y0 y1 y2 y3) (slices_Index_int_int.l0 (k + 1) y0 y1 y2 y3))
 | 0=>fun _ _ _ _ r h=>by simp [slices_Index_int_int.l0] at h
 | k + 1=>by
  have ih0:=slices_Index_int_int.mono_l k
  ·intro y0 y1 y2 y3
   unfold slices_Index_int_int.l0
   exact MO
theorem slices_Index_int_int.mono : ∀ a0 a1 k,LeO (slices_Index_int_int.f k a0 a1) (slices_Index_int_int.f (k + 1) a0 a1):=by
 intro a0 a1 k;have ih0:=slices_Index_int_int.mono_l k;unfold slices_Index_int_int.f
 exact MO
theorem slices_Index_int_int.calls (k : Nat) (A0 : Option Addr) (c0 : Nat) (l0 : List Int) (a1 : Int) (r : Int) (w : World) (hr0 : Kd.C (Kd.int .i64) w A0 l0.length l0) (hc0 : l0.length ≤ c0) (h : slices_Index_int_int.f k l0 a1 = some r) :
  Calls Try.prog 77 #[.slice A0 l0.length c0,.int .i64 a1] w fun e w'=>e = .returned (.int .i64 r)∧Drawn0 w w':=by
 have HR0:=AM hr0;have HC0:=AM hc0;clear hr0 hc0;have H : (slices_Index_int_int.l0 k l0 a1 (l0.length : Int) 0) = some r:=h;clear h;have H':=AM H;clear H;go_enter Try.func77,Try.ntmps77;go_wp2;go_loopg [8] k (fun kq v8 w'=>∃ (x8_1 : Int),v8 = .int .i64 x8_1∧Aside0 (slices_Index_int_int.l0 kq l0 a1 (l0.length : Int) x8_1 = some r)∧Aside0 (kq ≤ k)∧Drawn0 w w')
 case atStart=>exact ⟨(0),RF,H',⟨Nat.le_refl _⟩,by repeat (first|exact Drawn0.refl _|apply Drawn0.step)⟩
 case round =>
  clear H';try clear p2
  obtain ⟨x8_1,rfl,HA,HK1,⟨m1,rfl⟩⟩:=hrel;cases gk with
  | zero=>exact absurd HA.out (by simp [slices_Index_int_int.l0])
  | succ k1 =>
   have H:=HA.out;clear HA;simp only [slices_Index_int_int.l0] at H;by_cases c3 : x8_1 < (l0.length : Int)
   ·rw [if_pos c3] at H;have c3b0:=DT c3;clear c3;replace H:=IC H;obtain ⟨c4,H⟩:=H;have c4b0:=DT c4;clear c4;replace H:=IC H;obtain ⟨c5,H⟩:=H;have c5b0:=DT c5;clear c5;by_cases c6 : a1 = (rd l0 x8_1)
    ·rw [if_pos c6] at H;have c6b0:=QT c6;have c6b1:=bne_eq_false_iff_eq.mpr c6;clear c6;obtain rfl:=Option.some.inj H;have p298 : 0 ≤ (x8_1 : Int):=OD AS;have q298 : x8_1 < (l0.length : Int):=OD AS;obtain ⟨ad298,e298,hx298_0⟩:=Kd.at_int HR0.out x8_1 p298 q298;cases e298;replace p298:=ET p298;replace q298:=ET q298;go_wp2;go_ret;exact ⟨RF,DR⟩
    ·rw [if_neg c6] at H;have c6b0:=beq_eq_false_iff_ne.mpr c6;have c6b1:=bne_iff_ne.mpr c6;have H':=AM H;clear H;have p298 : 0 ≤ (x8_1 : Int):=OD AS;have q298 : x8_1 < (l0.length : Int):=OD AS;obtain ⟨ad298,e298,hx298_0⟩:=Kd.at_int HR0.out x8_1 p298 q298;cases e298;replace p298:=ET p298;replace q298:=ET q298;go_wp2;go_roundg k1
     case measure=>have:=HK1.out;omega
     case rel=>exact ⟨(wrap64 (x8_1 + 1)),RF,H',⟨by have:=HK1.out;omega⟩,by repeat (first|exact Drawn0.refl _|apply Drawn0.step)⟩
   ·rw [if_neg c3] at H;have c3b0:=DF c3;clear c3;obtain rfl:=Option.some.inj H;go_wp2;go_ret;exact ⟨RF,DR⟩

end Go.Proofs.Ytlolkkfpfjlhmaa.PFnOppositeEdgesFound
