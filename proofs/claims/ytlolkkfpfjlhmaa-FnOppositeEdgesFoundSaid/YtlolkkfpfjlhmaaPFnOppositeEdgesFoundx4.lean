-- Written by a program of this session (wip/tools/pp.sh) out of the translation; Lean checks it.
import Derived.Test.YtlolkkfpfjlhmaaPFnOppositeEdgesFoundx3
namespace Go.Proofs.Ytlolkkfpfjlhmaa.PFnOppositeEdgesFound
open Go.RowKit Go.Proofs.YtlolkkfpfjlhmaaOwn Go.Proofs.YtlolkkfpfjlhmaaW.PrintWords Go.Proofs.YtlolkkfpfjlhmaaW.PrintLast Go.Proofs.YtlolkkfpfjlhmaaW.PrintMore
attribute [local go_sem] max2_int min2_int max_two min_two max_three min_three max_four min_four   -- for this text's walks alone
set_option linter.unusedVariables false
set_option maxHeartbeats 8000000
set_option maxRecDepth 100000
set_option linter.unusedSimpArgs false

/-! ### impl_square_border: function 47 -/
mutual
def impl_square_border.l0 : Nat→List Int→Int→Int→Int→Int→Option (List Int)
 | 0,_,_,_,_,_=>none
 | k + 1,x3,x4,x13,x14,x219000=>if x14 < x13 then ((impl_square_index.f x219000 (wrap64 (x14 - x4)) (wrap64 (-x4))).bind fun t222=>(if x3.length < 17592186044416 then (impl_square_border.l0 k (x3 ++ [t222]) x4 x13 (wrap64 (x14 + 1)) x219000) else (none))) else (impl_square_border.l1 k x3 x4 (wrap64 (2 * x4)) 0 x219000)
def impl_square_border.l1 : Nat→List Int→Int→Int→Int→Int→Option (List Int)
 | 0,_,_,_,_,_=>none
 | k + 1,x3,x4,x29,x30,x219000=>if x30 < x29 then ((impl_square_index.f x219000 x4 (wrap64 (x30 - x4))).bind fun t226=>(if x3.length < 17592186044416 then (impl_square_border.l1 k (x3 ++ [t226]) x4 x29 (wrap64 (x30 + 1)) x219000) else (none))) else (impl_square_border.l2 k x3 x4 (wrap64 (2 * x4)) 0 x219000)
def impl_square_border.l2 : Nat→List Int→Int→Int→Int→Int→Option (List Int)
 | 0,_,_,_,_,_=>none
 | k + 1,x3,x4,x44,x45,x219000=>if x45 < x44 then ((impl_square_index.f x219000 (wrap64 (x4 - x45)) x4).bind fun t230=>(if x3.length < 17592186044416 then (impl_square_border.l2 k (x3 ++ [t230]) x4 x44 (wrap64 (x45 + 1)) x219000) else (none))) else (impl_square_border.l3 k x3 x4 (wrap64 (2 * x4)) 0 x219000)
def impl_square_border.l3 : Nat→List Int→Int→Int→Int→Int→Option (List Int)
 | 0,_,_,_,_,_=>none
 | k + 1,x3,x4,x59,x60,x219000=>if x60 < x59 then ((impl_square_index.f x219000 (wrap64 (-x4)) (wrap64 (x4 - x60))).bind fun t234=>(if x3.length < 17592186044416 then (impl_square_border.l3 k (x3 ++ [t234]) x4 x59 (wrap64 (x60 + 1)) x219000) else (none))) else (some x3)
end
def impl_square_border.f (k : Nat) (a0_0 : Int) : Option (List Int):=impl_square_border.l0 k (([] : List Int)) a0_0 (wrap64 (2 * a0_0)) 0 a0_0
theorem impl_square_border.mono_l : ∀ k,(∀ y0 y1 y2 y3 y4,LeO (impl_square_border.l0 k y0 y1 y2 y3 y4) (impl_square_border.l0 (k + 1) y0 y1 y2 y3 y4))∧(∀ y0 y1 y2 y3 y4,LeO (impl_square_border.l1 k y0 y1 y2 y3 y4) (impl_square_border.l1 (k + 1) y0 y1 y2 y3 y4))∧(∀ y0 y1 y2 y3 y4,LeO (impl_square_border.l2 k y0 y1 y2 y3 y4) (impl_square_border.l2 (k + 1) y0 y1 y2 y3 y4))∧(∀ y0 y1 y2 y3 y4,LeO (impl_square_border.l3 k y0 y1 y2 y3 y4) (impl_square_border.l3 (k + 1) y0 y1 y2 y3 y4))
 | 0=>⟨fun _ _ _ _ _=>LZ,fun _ _ _ _ _=>LZ,fun _ _ _ _ _=>LZ,fun _ _ _ _ _=>LZ⟩
 | k + 1=>by
  obtain ⟨ih0,ih1,ih2,ih3⟩:=impl_square_border.mono_l k
  refine ⟨?_,?_,?_,?_⟩ <;> intros
  all_goals (first|unfold impl_square_border.l0|unfold impl_square_border.l1|unfold impl_square_border.l2|unfold impl_square_border.l3)
  all_goals exact MO
theorem impl_square_border.mono : ∀ a0 k,LeO (impl_square_border.f k a0) (impl_square_border.f (k + 1) a0):=by
 intro a0 k;obtain ⟨ih0,ih1,ih2,ih3⟩:=impl_square_border.mono_l k;unfold impl_square_border.f
 exact MO
theorem impl_square_border.calls (k : Nat) (a0_0 : Int) (r : List Int) (w : World) (h : impl_square_border.f k a0_0 = some r) :
  Calls Try.prog 47 #[.agg #[.int .i64 a0_0]] w fun e w'=>∃ v0_ : Value,e = .returned (v0_)∧Kd.R (Kd.int .i64) 3 w' w.heap.size (fun _=>True) v0_ r∧Below w.heap.size w w':=by
 have hu43:=Try.underlying43;have HB:=HRf w;have H : (impl_square_border.l0 k (([] : List Int)) a0_0 (wrap64 (2 * a0_0)) 0 a0_0) = some r:=h;clear h;obtain ⟨y219,hy219⟩ : ∃ y_ : List Int,y_ = (([] : List Int)):=⟨_,rfl⟩;replace H : (impl_square_border.l0 k y219 a0_0 (wrap64 (2 * a0_0)) 0 a0_0) = some r:=HY H hy219;have Ny219:=AM hy219;clear hy219;have H':=AM H;clear H;go_enter Try.func47,Try.ntmps47;try go_wp2_with (first|((with_reducible refine gate_dst (N:=1) rfl ?_);refine box_event ?hg (N:=1) ?hd (cs:=#[.int .i64 a0_0]) (t:=43) ?hr ?_;(case hd=>rfl);(case hg=>rfl);(case hr=>exact GS);intro gb218 hg w2 hbox hb;have BK218:=AM hbox;have GW218:=AM ((by rw [hg];exact (BZ BB) : w.heap.size ≤ gb218));have GE218:=AM ((by rw [hg];exact (BZ BB) : w.heap.size ≤ gb218));replace HB:=HS hb;clear hb hbox hg))
 replace BK218:=AM (blk_drew BK218.out);replace HB:=AM (below_drew1 HB.out);refine PSt (n:=5) (S:=fun w'=>w'.cell? ⟨gb218,0,none⟩ = some (.int .i64 a0_0)) (ds:=[]) ((BC BK218.out 0).trans rfl) (fun hHeld=>?_);generalize w2.drew = w3 at BK218 HB hHeld ⊢;refine pure_ (i:=1) (N:=some 10) #[false,true,false,false,false] rfl rfl (by kernel_rfl) (fun _ _ _ h=>h) (Or.inl ⟨by rfl,PW⟩) PU ?_;refine take_ (i:=2) (N:=some 11) (v:=?_) (a':=?_) #[false,true,true,false,false] rfl rfl (by kernel_rfl) (fun _ _ _ h=>h) (Or.inl ⟨by rfl,?_⟩) hHeld ?_ ?_;rotate_left
 ·intro w' s0;go_simp;with_reducible rfl
 rotate_left
 ·exact PU
 refine one_ (i:=0) (N:=some 9) #[true,true,true,false,false] rfl rfl (by kernel_rfl) (by decide) (fun K hK=>?_);refine Kd.R_lit_step (Kd.int .i64) _ 3 ?hg (N:=9) ?hd (xs:=([] : List Int)) (inner:=[]) (ok:=fun _=>True) (okp:=fun _=>True) ?hr ?hp (fun _ hk=>hk) trivial (Below.refl _ _) (Nat.le_refl _) (by simp) ?_;(case hd=>rfl);(case hg=>rfl);(case hr=>exact GS);(case hp=>exact (Reps.none _ _));intro v220 w4 ho5 hb hg_ hnew_;clear hg_ hnew_
 (first|rw [← Ny219.out] at ho5|(simp only [Int.reduceToNat] at ho5;rw [← Ny219.out] at ho5));have HO221:=AM (Kd.R_lower ho5 (BZ (AGE GE218)));replace BK218:=AM (blk_below (g:=gb218) (o:=.cells #[.int .i64 a0_0] 43 (0,0)) (BW BK218) hb);replace HB:=HG GE218 hb;clear hb ho5;refine hK.out _ _ ((BC BK218.out 0).trans rfl) (fun hHeld=>?_);clear hK K;refine norm_ (a':=?_) ?_ ?_;rotate_left
 ·show Act.put _ (some 9) _ = _;simp only [Act.put,List.setIfInBounds_toArray,List.set_cons_zero,List.set_cons_succ,i64_w,i32_w];rfl
 refine pure_ (i:=3) (N:=some 3) #[true,true,true,true,false] rfl rfl (by kernel_rfl) (fun _ _ _ h=>h) (Or.inl ⟨by rfl,PW⟩) PU ?_;refine pure_ (i:=4) (N:=some 4) #[true,true,true,true,true] rfl rfl (by kernel_rfl) (fun _ _ _ h=>h) (Or.inl ⟨by rfl,PW⟩) PU ?_;refine done_ (by kernel_rfl) ?_;try go_wp2
 go_loopg [3,14] k (fun kq v3 v14 w'=>∃ (x3_1 : List Int) (x14_1 : Int),v14 = .int .i64 x14_1∧Aside0 (impl_square_border.l0 kq x3_1 a0_0 (wrap64 (2 * a0_0)) x14_1 a0_0 = some r)∧Aside0 (kq ≤ k)∧Aside0 (Kd.R (Kd.int .i64) 3 w' w.heap.size (fun _=>True) v3 x3_1)∧Aside0 (w'.heap[gb218]? = some (.cells #[.int .i64 a0_0] 43 (0,0)))∧Aside0 (Below w.heap.size w w'))
 case atStart=>exact ⟨(y219),(0),RF,H',⟨Nat.le_refl _⟩,⟨KR HO221⟩,⟨by (with_reducible repeat (first|refine blk_drewN ?_ _|refine blk_drew ?_|refine blk_alloc ?_ _));exact BK218.out⟩,⟨AGE GE218⟩⟩
 case round =>
  clear H';try clear p2
  try clear c4
  obtain ⟨x3_1,x14_1,rfl,HA,HK1,HO_3,BK218,HB⟩:=hrel;cases gk with
  | zero=>exact absurd HA.out (by simp [impl_square_border.l0])
  | succ k1 =>
   have H:=HA.out;clear HA;simp only [impl_square_border.l0] at H;by_cases c6 : x14_1 < (wrap64 (2 * a0_0))
   ·rw [if_pos c6] at H;have c6b0:=DT c6;clear c6;replace H:=EA H;obtain ⟨t222,A7,H⟩:=H;replace H:=IC H;obtain ⟨c8,H⟩:=H;have LMc8:=AM c8;clear c8;obtain ⟨y223,hy223⟩ : ∃ y_ : List Int,y_ = (x3_1 ++ [t222]):=⟨_,rfl⟩;replace H : (impl_square_border.l0 k1 y223 a0_0 (wrap64 (2 * a0_0)) (wrap64 (x14_1 + 1)) a0_0) = some r:=HY H hy223;have Ny223:=AM hy223;clear hy223;have H':=AM H;clear H;have hcz9_0 : wr.cell? ⟨gb218,0,none⟩ = some (.int .i64 a0_0):=(BC BK218.out 0).trans rfl;have hfz9_0:=BF BK218.out 0;go_wp2_with (first|(refine GC 74 ?_;refine GM (some 24) Try.func74 (impl_square_index.calls a0_0 (wrap64 (x14_1 - a0_0)) (wrap64 (-a0_0)) t222 _ A7.out) ?_;rintro e w10 ⟨rfl,hb⟩;refine ⟨_,rfl,?_⟩;replace HO_3:=RB HO_3 hb;replace BK218:=AM (blk_below (g:=gb218) (o:=.cells #[.int .i64 a0_0] 43 (0,0)) (BW BK218) hb);replace HB:=HG GE218 hb;try clear hb)|((with_reducible refine gate_builtin (b:=.append) (xs:=#[.tmp 17,.tmp 25]) rfl ?_);at_builtin;refine Kd.R_append (Kd.int .i64) (w0:=w) w.heap.size rfl (.tmp 17) (.tmp 25) 24 3 (.int .i64 0) 8 rfl Try.underlying24 info3 rfl (by decide) (by omega) u3 x3_1 t222 [.int .i64 t222] (fun _=>True) (fun _=>False) rfl rfl ?aP (fun _ hk=>hk.elim) ?aF ?aO ?aB ?aS ?aL ?_;(case aP=>exact rfl);(case aB=>exact (AGE GE218));(case aF=>exact (fun _ _=>trivial));(case aO=>exact (KR HO_3));(case aS=>exact (BZ (AGE GE218)));(case aL=>have:=LMc8.out;omega);intro v224 w11 ho hb hg hat;rw [← Ny223.out] at ho;replace BK218:=AM (blk_grown (g:=gb218) (o:=.cells #[.int .i64 a0_0] 43 (0,0)) (BW BK218) hg (Kd.R_ne HO_3.out BK218.out (by decide)));replace HB:=AM hb;have HO225:=AM ho;clear HO_3;clear ho hb hg hat));go_roundg k1
    case measure=>have:=HK1.out;omega
    case rel=>exact ⟨(y223),(wrap64 (x14_1 + 1)),RF,H',⟨by have:=HK1.out;omega⟩,⟨KR HO225⟩,⟨by (with_reducible repeat (first|refine blk_drewN ?_ _|refine blk_drew ?_|refine blk_alloc ?_ _));exact BK218.out⟩,⟨AGE GE218⟩⟩
   ·rw [if_neg c6] at H;have c6b0:=DF c6;clear c6;have H':=AM H;clear H;go_wp2;go_loopg [3,30] k1 (fun kq v3 v30 w'=>∃ (x3_2 : List Int) (x30_2 : Int),v30 = .int .i64 x30_2∧Aside0 (impl_square_border.l1 kq x3_2 a0_0 (wrap64 (2 * a0_0)) x30_2 a0_0 = some r)∧Aside0 (kq ≤ k1)∧Aside0 (Kd.R (Kd.int .i64) 3 w' w.heap.size (fun _=>True) v3 x3_2)∧Aside0 (w'.heap[gb218]? = some (.cells #[.int .i64 a0_0] 43 (0,0)))∧Aside0 (Below w.heap.size w w'))
    case atStart=>exact ⟨(x3_1),(0),RF,H',⟨Nat.le_refl _⟩,⟨KR HO_3⟩,⟨by (with_reducible repeat (first|refine blk_drewN ?_ _|refine blk_drew ?_|refine blk_alloc ?_ _));exact BK218.out⟩,⟨AGE GE218⟩⟩
    case round =>
     clear H';try clear p2
     try clear c4
     try clear c6
     try clear c6b0
     try clear p6
     try clear c7
     try clear c8
     try clear hcz9_0
     try clear hfz9_0
     try clear p2
     obtain ⟨x3_2,x30_2,rfl,HA,HK2,HO_3,BK218,HB⟩:=hrel;cases gk with
     | zero=>exact absurd HA.out (by simp [impl_square_border.l1])
     | succ k2 =>
      have H:=HA.out;clear HA;simp only [impl_square_border.l1] at H;by_cases c12 : x30_2 < (wrap64 (2 * a0_0))
      ·rw [if_pos c12] at H;have c12b0:=DT c12;clear c12;replace H:=EA H;obtain ⟨t226,A13,H⟩:=H;replace H:=IC H;obtain ⟨c14,H⟩:=H;have LMc14:=AM c14;clear c14;obtain ⟨y227,hy227⟩ : ∃ y_ : List Int,y_ = (x3_2 ++ [t226]):=⟨_,rfl⟩;replace H : (impl_square_border.l1 k2 y227 a0_0 (wrap64 (2 * a0_0)) (wrap64 (x30_2 + 1)) a0_0) = some r:=HY H hy227;have Ny227:=AM hy227;clear hy227;have H':=AM H;clear H;have hcz15_0 : wr.cell? ⟨gb218,0,none⟩ = some (.int .i64 a0_0):=(BC BK218.out 0).trans rfl;have hfz15_0:=BF BK218.out 0;go_wp2_with (first|(refine GC 74 ?_;refine GM (some 39) Try.func74 (impl_square_index.calls a0_0 a0_0 (wrap64 (x30_2 - a0_0)) t226 _ A13.out) ?_;rintro e w16 ⟨rfl,hb⟩;refine ⟨_,rfl,?_⟩;replace HO_3:=RB HO_3 hb;replace BK218:=AM (blk_below (g:=gb218) (o:=.cells #[.int .i64 a0_0] 43 (0,0)) (BW BK218) hb);replace HB:=HG GE218 hb;try clear hb)|((with_reducible refine gate_builtin (b:=.append) (xs:=#[.tmp 33,.tmp 40]) rfl ?_);at_builtin;refine Kd.R_append (Kd.int .i64) (w0:=w) w.heap.size rfl (.tmp 33) (.tmp 40) 24 3 (.int .i64 0) 8 rfl Try.underlying24 info3 rfl (by decide) (by omega) u3 x3_2 t226 [.int .i64 t226] (fun _=>True) (fun _=>False) rfl rfl ?aP (fun _ hk=>hk.elim) ?aF ?aO ?aB ?aS ?aL ?_;(case aP=>exact rfl);(case aB=>exact (AGE GE218));(case aF=>exact (fun _ _=>trivial));(case aO=>exact (KR HO_3));(case aS=>exact (BZ (AGE GE218)));(case aL=>have:=LMc14.out;omega);intro v228 w17 ho hb hg hat;rw [← Ny227.out] at ho;replace BK218:=AM (blk_grown (g:=gb218) (o:=.cells #[.int .i64 a0_0] 43 (0,0)) (BW BK218) hg (Kd.R_ne HO_3.out BK218.out (by decide)));replace HB:=AM hb;have HO229:=AM ho;clear HO_3;clear ho hb hg hat));go_roundg k2
       case measure=>have:=HK1.out;have:=HK2.out;omega
       case rel=>exact ⟨(y227),(wrap64 (x30_2 + 1)),RF,H',⟨by have:=HK1.out;have:=HK2.out;omega⟩,⟨KR HO229⟩,⟨by (with_reducible repeat (first|refine blk_drewN ?_ _|refine blk_drew ?_|refine blk_alloc ?_ _));exact BK218.out⟩,⟨AGE GE218⟩⟩
      ·rw [if_neg c12] at H;have c12b0:=DF c12;clear c12;have H':=AM H;clear H;go_wp2;go_loopg [3,45] k2 (fun kq v3 v45 w'=>∃ (x3_3 : List Int) (x45_3 : Int),v45 = .int .i64 x45_3∧Aside0 (impl_square_border.l2 kq x3_3 a0_0 (wrap64 (2 * a0_0)) x45_3 a0_0 = some r)∧Aside0 (kq ≤ k2)∧Aside0 (Kd.R (Kd.int .i64) 3 w' w.heap.size (fun _=>True) v3 x3_3)∧Aside0 (w'.heap[gb218]? = some (.cells #[.int .i64 a0_0] 43 (0,0)))∧Aside0 (Below w.heap.size w w'))
       case atStart=>exact ⟨(x3_2),(0),RF,H',⟨Nat.le_refl _⟩,⟨KR HO_3⟩,⟨by (with_reducible repeat (first|refine blk_drewN ?_ _|refine blk_drew ?_|refine blk_alloc ?_ _));exact BK218.out⟩,⟨AGE GE218⟩⟩
       case round =>
        clear H';try clear c1
        try clear p2
        try clear c4
        try clear c6
        try clear c6b0
        try clear p6
        try clear c7
        try clear c8
        try clear c12
        try clear c12b0
        try clear c14
        try clear hcz15_0
        try clear hcz9_0
        try clear hfz15_0
        try clear hfz9_0
        try clear p2
        try clear p6
        obtain ⟨x3_3,x45_3,rfl,HA,HK3,HO_3,BK218,HB⟩:=hrel;cases gk with
        | zero=>exact absurd HA.out (by simp [impl_square_border.l2])
        | succ k3 =>
         have H:=HA.out;clear HA;simp only [impl_square_border.l2] at H;by_cases c18 : x45_3 < (wrap64 (2 * a0_0))
         ·rw [if_pos c18] at H;have c18b0:=DT c18;clear c18;replace H:=EA H;obtain ⟨t230,A19,H⟩:=H;replace H:=IC H;obtain ⟨c20,H⟩:=H;have LMc20:=AM c20;clear c20;obtain ⟨y231,hy231⟩ : ∃ y_ : List Int,y_ = (x3_3 ++ [t230]):=⟨_,rfl⟩;replace H : (impl_square_border.l2 k3 y231 a0_0 (wrap64 (2 * a0_0)) (wrap64 (x45_3 + 1)) a0_0) = some r:=HY H hy231;have Ny231:=AM hy231;clear hy231;have H':=AM H;clear H;have hcz21_0 : wr.cell? ⟨gb218,0,none⟩ = some (.int .i64 a0_0):=(BC BK218.out 0).trans rfl;have hfz21_0:=BF BK218.out 0;go_wp2_with (first|(refine GC 74 ?_;refine GM (some 54) Try.func74 (impl_square_index.calls a0_0 (wrap64 (a0_0 - x45_3)) a0_0 t230 _ A19.out) ?_;rintro e w22 ⟨rfl,hb⟩;refine ⟨_,rfl,?_⟩;replace HO_3:=RB HO_3 hb;replace BK218:=AM (blk_below (g:=gb218) (o:=.cells #[.int .i64 a0_0] 43 (0,0)) (BW BK218) hb);replace HB:=HG GE218 hb;try clear hb)|((with_reducible refine gate_builtin (b:=.append) (xs:=#[.tmp 48,.tmp 55]) rfl ?_);at_builtin;refine Kd.R_append (Kd.int .i64) (w0:=w) w.heap.size rfl (.tmp 48) (.tmp 55) 24 3 (.int .i64 0) 8 rfl Try.underlying24 info3 rfl (by decide) (by omega) u3 x3_3 t230 [.int .i64 t230] (fun _=>True) (fun _=>False) rfl rfl ?aP (fun _ hk=>hk.elim) ?aF ?aO ?aB ?aS ?aL ?_;(case aP=>exact rfl);(case aB=>exact (AGE GE218));(case aF=>exact (fun _ _=>trivial));(case aO=>exact (KR HO_3));(case aS=>exact (BZ (AGE GE218)));(case aL=>have:=LMc20.out;omega);intro v232 w23 ho hb hg hat;rw [← Ny231.out] at ho;replace BK218:=AM (blk_grown (g:=gb218) (o:=.cells #[.int .i64 a0_0] 43 (0,0)) (BW BK218) hg (Kd.R_ne HO_3.out BK218.out (by decide)));replace HB:=AM hb;have HO233:=AM ho;clear HO_3;clear ho hb hg hat));go_roundg k3
          case measure=>have:=HK1.out;have:=HK2.out;have:=HK3.out;omega
          case rel=>exact ⟨(y231),(wrap64 (x45_3 + 1)),RF,H',⟨by have:=HK1.out;have:=HK2.out;have:=HK3.out;omega⟩,⟨KR HO233⟩,⟨by (with_reducible repeat (first|refine blk_drewN ?_ _|refine blk_drew ?_|refine blk_alloc ?_ _));exact BK218.out⟩,⟨AGE GE218⟩⟩
         ·rw [if_neg c18] at H;have c18b0:=DF c18;clear c18;have H':=AM H;clear H;go_wp2;go_loopg [3,60] k3 (fun kq v3 v60 w'=>∃ (x3_4 : List Int) (x60_4 : Int),v60 = .int .i64 x60_4∧Aside0 (impl_square_border.l3 kq x3_4 a0_0 (wrap64 (2 * a0_0)) x60_4 a0_0 = some r)∧Aside0 (kq ≤ k3)∧Aside0 (Kd.R (Kd.int .i64) 3 w' w.heap.size (fun _=>True) v3 x3_4)∧Aside0 (w'.heap[gb218]? = some (.cells #[.int .i64 a0_0] 43 (0,0)))∧Aside0 (Below w.heap.size w w'))
          case atStart=>exact ⟨(x3_3),(0),RF,H',⟨Nat.le_refl _⟩,⟨KR HO_3⟩,⟨by (with_reducible repeat (first|refine blk_drewN ?_ _|refine blk_drew ?_|refine blk_alloc ?_ _));exact BK218.out⟩,⟨AGE GE218⟩⟩
          case round =>
           clear H';try clear c1
           try clear c2
           try clear p2
           try clear c4
           try clear c6
           try clear c6b0
           try clear p6
           try clear c7
           try clear c8
           try clear c12
           try clear c12b0
           try clear c14
           try clear c18
           try clear c18b0
           try clear c20
           try clear hcz15_0
           try clear hcz21_0
           try clear hcz9_0
           try clear hfz15_0
           try clear hfz21_0
           try clear hfz9_0
           try clear p2
           try clear p6
           obtain ⟨x3_4,x60_4,rfl,HA,HK4,HO_3,BK218,HB⟩:=hrel;cases gk with
           | zero=>exact absurd HA.out (by simp [impl_square_border.l3])
           | succ k4 =>
            have H:=HA.out;clear HA;simp only [impl_square_border.l3] at H;by_cases c24 : x60_4 < (wrap64 (2 * a0_0))
            ·rw [if_pos c24] at H;have c24b0:=DT c24;clear c24;replace H:=EA H;obtain ⟨t234,A25,H⟩:=H;replace H:=IC H;obtain ⟨c26,H⟩:=H;have LMc26:=AM c26;clear c26;obtain ⟨y235,hy235⟩ : ∃ y_ : List Int,y_ = (x3_4 ++ [t234]):=⟨_,rfl⟩;replace H : (impl_square_border.l3 k4 y235 a0_0 (wrap64 (2 * a0_0)) (wrap64 (x60_4 + 1)) a0_0) = some r:=HY H hy235;have Ny235:=AM hy235;clear hy235;have H':=AM H;clear H;have hcz27_0 : wr.cell? ⟨gb218,0,none⟩ = some (.int .i64 a0_0):=(BC BK218.out 0).trans rfl;have hfz27_0:=BF BK218.out 0;go_wp2_with (first|(refine GC 74 ?_;refine GM (some 70) Try.func74 (impl_square_index.calls a0_0 (wrap64 (-a0_0)) (wrap64 (a0_0 - x60_4)) t234 _ A25.out) ?_;rintro e w28 ⟨rfl,hb⟩;refine ⟨_,rfl,?_⟩;replace HO_3:=RB HO_3 hb;replace BK218:=AM (blk_below (g:=gb218) (o:=.cells #[.int .i64 a0_0] 43 (0,0)) (BW BK218) hb);replace HB:=HG GE218 hb;try clear hb)|((with_reducible refine gate_builtin (b:=.append) (xs:=#[.tmp 63,.tmp 71]) rfl ?_);at_builtin;refine Kd.R_append (Kd.int .i64) (w0:=w) w.heap.size rfl (.tmp 63) (.tmp 71) 24 3 (.int .i64 0) 8 rfl Try.underlying24 info3 rfl (by decide) (by omega) u3 x3_4 t234 [.int .i64 t234] (fun _=>True) (fun _=>False) rfl rfl ?aP (fun _ hk=>hk.elim) ?aF ?aO ?aB ?aS ?aL ?_;(case aP=>exact rfl);(case aB=>exact (AGE GE218));(case aF=>exact (fun _ _=>trivial));(case aO=>exact (KR HO_3));(case aS=>exact (BZ (AGE GE218)));(case aL=>have:=LMc26.out;omega);intro v236 w29 ho hb hg hat;rw [← Ny235.out] at ho;replace BK218:=AM (blk_grown (g:=gb218) (o:=.cells #[.int .i64 a0_0] 43 (0,0)) (BW BK218) hg (Kd.R_ne HO_3.out BK218.out (by decide)));replace HB:=AM hb;have HO237:=AM ho;clear HO_3;clear ho hb hg hat));go_roundg k4
             case measure=>have:=HK1.out;have:=HK2.out;have:=HK3.out;have:=HK4.out;omega
             case rel=>exact ⟨(y235),(wrap64 (x60_4 + 1)),RF,H',⟨by have:=HK1.out;have:=HK2.out;have:=HK3.out;have:=HK4.out;omega⟩,⟨KR HO237⟩,⟨by (with_reducible repeat (first|refine blk_drewN ?_ _|refine blk_drew ?_|refine blk_alloc ?_ _));exact BK218.out⟩,⟨AGE GE218⟩⟩
            ·rw [if_neg c24] at H;have c24b0:=DF c24;clear c24;obtain rfl:=Option.some.inj H;go_wp2;go_ret;exact ⟨_,RE,KR HO_3,AGE GE218⟩

/-! ### impl_areOpposite_1: function 48 -/
def impl_areOpposite_1.f (a0 : Int) (l1 : List (List Int)) (l2 : List Int) : Option (Bool):=if 0 < (l1.length : Int) then (if 0 ≤ a0 then (if a0 < ((rd_L2 l1 0).length : Int) then (if 0 < (l2.length : Int) then (if 0 ≤ (wrap64 ((rd l2 0) - a0)) then (if (wrap64 ((rd l2 0) - a0)) < ((rd_L2 l1 0).length : Int) then (some ((wrap64 ((rd (rd_L2 l1 0) a0) + (rd (rd_L2 l1 0) (wrap64 ((rd l2 0) - a0))))) != 0)) else (none)) else (none)) else (none)) else (none)) else (none)) else (none)
theorem impl_areOpposite_1.calls (a0 : Int) (A1 : Option Addr) (c1 : Nat) (l1 : List (List Int)) (A2 : Option Addr) (c2 : Nat) (l2 : List Int) (r : Bool) (w : World) (hr1 : Kd.C (Kd.slice 3 (Kd.int .i64)) w A1 l1.length l1) (hc1 : l1.length ≤ c1) (hr2 : Kd.C (Kd.int .i64) w A2 l2.length l2) (hc2 : l2.length ≤ c2) (h : impl_areOpposite_1.f a0 l1 l2 = some r) :
  Calls Try.prog 48 #[.int .i64 a0,.pointer A1,.pointer A2] w fun e w'=>e = .returned (.bool r)∧Drawn0 w w':=by
 have HR1:=AM hr1;have HC1:=AM hc1;clear hr1 hc1;have HR2:=AM hr2;have HC2:=AM hc2;clear hr2 hc2;have H : (if 0 < (l1.length : Int) then (if 0 ≤ a0 then (if a0 < ((rd_L2 l1 0).length : Int) then (if 0 < (l2.length : Int) then (if 0 ≤ (wrap64 ((rd l2 0) - a0)) then (if (wrap64 ((rd l2 0) - a0)) < ((rd_L2 l1 0).length : Int) then (some ((wrap64 ((rd (rd_L2 l1 0) a0) + (rd (rd_L2 l1 0) (wrap64 ((rd l2 0) - a0))))) != 0)) else (none)) else (none)) else (none)) else (none)) else (none)) else (none)) = some r:=h;clear h;replace H:=IC H;obtain ⟨c4,H⟩:=H;have c4b0:=DT c4;have c4b1 : decide (0 < l1.length) = true:=DT (by omega);clear c4;replace H:=IC H;obtain ⟨c5,H⟩:=H;have c5b0:=DT c5;clear c5;replace H:=IC H;obtain ⟨c6,H⟩:=H;have c6b0:=DT c6;clear c6;replace H:=IC H;obtain ⟨c7,H⟩:=H;have c7b0:=DT c7;have c7b1 : decide (0 < l2.length) = true:=DT (by omega);clear c7;obtain ⟨ji8,hji8⟩ : ∃ j_ : Int,(wrap64 ((rd l2 0) - a0)) = j_:=⟨_,rfl⟩;replace H : (if 0 ≤ (ji8) then (if (ji8) < ((rd_L2 l1 0).length : Int) then (some ((wrap64 ((rd (rd_L2 l1 0) a0) + (rd (rd_L2 l1 0) (ji8)))) != 0)) else (none)) else (none)) = some r:=by first|(rw [hji8] at H;exact H)|(simp only [hji8] at H ⊢;exact H)
 have hji8w : (IntKind.i64.wrap ((rd l2 0) - a0)) = ji8:=(i64_w _).trans hji8;replace H:=IC H;obtain ⟨c9,H⟩:=H;have c9b0:=DT c9;clear c9;replace H:=IC H;obtain ⟨c10,H⟩:=H;have c10b0:=DT c10;clear c10;obtain rfl:=Option.some.inj H;have p238 : 0 ≤ (0 : Int):=(by omega);have q238 : 0 < (l1.length : Int):=OD AS;obtain ⟨ad238,A238_0,c238_0,e238,hx238_0,hl238_0,hi238_0⟩:=at_L2 HR1.out 0 p238 q238;cases e238;have qi238 : (0 < l1.length) = True:=ET (by omega)
 (try rw [show ((0 : Int)).toNat = 0 from rfl] at hx238_0)
 (try rw [Addr.add_zero'] at hx238_0);have HR238_0:=AM hi238_0;have HC238_0:=AM hl238_0;clear hi238_0 hl238_0;replace p238:=ET p238;replace q238:=ET q238;have p239 : 0 ≤ (a0 : Int):=OD AS;have q239 : a0 < ((rd_L2 l1 0).length : Int):=OD AS;obtain ⟨ad239,e239,hx239_0⟩:=Kd.at_int HR238_0.out a0 p239 q239;cases e239;replace p239:=ET p239;replace q239:=ET q239;have p240 : 0 ≤ (0 : Int):=(by omega);have q240 : 0 < (l1.length : Int):=OD AS;obtain ⟨ad240,A240_0,c240_0,e240,hx240_0,hl240_0,hi240_0⟩:=at_L2 HR1.out 0 p240 q240;obtain rfl : ad238 = ad240:=(by injection e240);have qi240 : (0 < l1.length) = True:=ET (by omega)
 (try rw [show ((0 : Int)).toNat = 0 from rfl] at hx240_0)
 (try rw [Addr.add_zero'] at hx240_0);have HR240_0:=AM hi240_0;have HC240_0:=AM hl240_0;clear hi240_0 hl240_0;replace p240:=ET p240;replace q240:=ET q240;have ea_:=Option.some.inj (hx238_0.symm.trans hx240_0);injection ea_ with ea_ en_ ec_
 subst ea_;subst ec_;clear en_;have p241 : 0 ≤ (0 : Int):=(by omega);have q241 : 0 < (l2.length : Int):=OD AS;obtain ⟨ad241,e241,hx241_0⟩:=Kd.at_int HR2.out 0 p241 q241;cases e241;have qi241 : (0 < l2.length) = True:=ET (by omega)
 (try rw [show ((0 : Int)).toNat = 0 from rfl] at hx241_0)
 (try rw [Addr.add_zero'] at hx241_0);replace p241:=ET p241;replace q241:=ET q241;have p242 : 0 ≤ ((ji8) : Int):=OD AS;have q242 : (ji8) < ((rd_L2 l1 0).length : Int):=OD AS;obtain ⟨ad242,e242,hx242_0⟩:=Kd.at_int HR240_0.out (ji8) p242 q242;cases e242;replace p242:=ET p242;replace q242:=ET q242;go_enter Try.func48,Try.ntmps48;go_wp2;repeat (go_quiet (fail);try go_wp2)
 go_ret;exact ⟨by first|rfl|(simp;done)|(simp only [← hji8] <;> (first|rfl|simp))|(simp [*];done)|(simp [*,wrap64];done),by repeat (first|exact Drawn0.refl _|apply Drawn0.step)⟩

/-! ### slices_IndexFunc_int_int__impl_areOpposite_1: function 73 -/
def slices_IndexFunc_int_int__impl_areOpposite_1.l0 : Nat→List Int→Int→Int→List (List Int)→List Int→Option (Int)
 | 0,_,_,_,_,_=>none
 | k + 1,x0,x7,x8,x610,x611=>if x8 < x7 then (if 0 ≤ x8 then (if x8 < (x0.length : Int) then ((impl_areOpposite_1.f (rd x0 x8) x610 x611).bind fun t239=>(if t239 = true then (some x8) else (slices_IndexFunc_int_int__impl_areOpposite_1.l0 k x0 x7 (wrap64 (x8 + 1)) x610 x611))) else (none)) else (none)) else (some (-1))
def slices_IndexFunc_int_int__impl_areOpposite_1.f (k : Nat) (l0 : List Int) (l1_0 : List (List Int)) (l1_1 : List Int) : Option (Int):=slices_IndexFunc_int_int__impl_areOpposite_1.l0 k l0 (l0.length : Int) 0 l1_0 l1_1
theorem slices_IndexFunc_int_int__impl_areOpposite_1.mono_l : ∀ k,(∀ y0 y1 y2 y3 y4,LeO (slices_IndexFunc_int_int__impl_areOpposite_1.l0 k y0 y1 y2 y3 y4) (slices_IndexFunc_int_int__impl_areOpposite_1.l0 (k + 1) y0 y1 y2 y3 y4))
 | 0=>fun _ _ _ _ _ r h=>by simp [slices_IndexFunc_int_int__impl_areOpposite_1.l0] at h
 | k + 1=>by
  have ih0:=slices_IndexFunc_int_int__impl_areOpposite_1.mono_l k
  ·intro y0 y1 y2 y3 y4
   unfold slices_IndexFunc_int_int__impl_areOpposite_1.l0
   exact MO
theorem slices_IndexFunc_int_int__impl_areOpposite_1.mono : ∀ a0 a1 a2 k,LeO (slices_IndexFunc_int_int__impl_areOpposite_1.f k a0 a1 a2) (slices_IndexFunc_int_int__impl_areOpposite_1.f (k + 1) a0 a1 a2):=by
 intro a0 a1 a2 k;have ih0:=slices_IndexFunc_int_int__impl_areOpposite_1.mono_l k;unfold slices_IndexFunc_int_int__impl_areOpposite_1.f
 exact MO
theorem slices_IndexFunc_int_int__impl_areOpposite_1.calls (k : Nat) (A0 : Option Addr) (c0 : Nat) (l0 : List Int) (A1_0 : Option Addr) (c1_0 : Nat) (l1_0 : List (List Int)) (A1_1 : Option Addr) (c1_1 : Nat) (l1_1 : List Int) (r : Int) (w : World) (hr0 : Kd.C (Kd.int .i64) w A0 l0.length l0) (hc0 : l0.length ≤ c0) (hr1_0 : Kd.C (Kd.slice 3 (Kd.int .i64)) w A1_0 l1_0.length l1_0) (hc1_0 : l1_0.length ≤ c1_0) (hr1_1 : Kd.C (Kd.int .i64) w A1_1 l1_1.length l1_1) (hc1_1 : l1_1.length ≤ c1_1) (h : slices_IndexFunc_int_int__impl_areOpposite_1.f k l0 l1_0 l1_1 = some r) :
  Calls Try.prog 73 #[.slice A0 l0.length c0,.func (.func 48) #[] #[.pointer A1_0,.pointer A1_1]] w fun e w'=>e = .returned (.int .i64 r)∧Drawn0 w w':=by
 have HR0:=AM hr0;have HC0:=AM hc0;clear hr0 hc0;have HR1_0:=AM hr1_0;have HC1_0:=AM hc1_0;clear hr1_0 hc1_0;have HR1_1:=AM hr1_1;have HC1_1:=AM hc1_1;clear hr1_1 hc1_1;have H : (slices_IndexFunc_int_int__impl_areOpposite_1.l0 k l0 (l0.length : Int) 0 l1_0 l1_1) = some r:=h;clear h;have H':=AM H;clear H;go_enter Try.func73,Try.ntmps73;go_wp2;go_loopg [8] k (fun kq v8 w'=>∃ (x8_1 : Int),v8 = .int .i64 x8_1∧Aside0 (slices_IndexFunc_int_int__impl_areOpposite_1.l0 kq l0 (l0.length : Int) x8_1 l1_0 l1_1 = some r)∧Aside0 (kq ≤ k)∧Drawn0 w w')
 case atStart=>exact ⟨(0),RF,H',⟨Nat.le_refl _⟩,by repeat (first|exact Drawn0.refl _|apply Drawn0.step)⟩
 case round =>
  clear H';try clear c1
  try clear p2
  obtain ⟨x8_1,rfl,HA,HK1,⟨m1,rfl⟩⟩:=hrel;cases gk with
  | zero=>exact absurd HA.out (by simp [slices_IndexFunc_int_int__impl_areOpposite_1.l0])
  | succ k1 =>
   have H:=HA.out;clear HA;simp only [slices_IndexFunc_int_int__impl_areOpposite_1.l0] at H;by_cases c3 : x8_1 < (l0.length : Int)
   ·rw [if_pos c3] at H;have c3b0:=DT c3;clear c3;replace H:=IC H;obtain ⟨c4,H⟩:=H;have c4b0:=DT c4;clear c4;replace H:=IC H;obtain ⟨c5,H⟩:=H;have c5b0:=DT c5;clear c5;replace H:=EA H;obtain ⟨t239,A6,H⟩:=H;by_cases c7 : t239 = true
    ·subst c7;replace H:=IP H;obtain rfl:=Option.some.inj H;have p238 : 0 ≤ (x8_1 : Int):=OD AS;have q238 : x8_1 < (l0.length : Int):=OD AS;obtain ⟨ad238,e238,hx238_0⟩:=Kd.at_int HR0.out x8_1 p238 q238;cases e238;replace p238:=ET p238;replace q238:=ET q238;go_wp2_with (first|(go_at_call 48;(with_reducible refine (impl_areOpposite_1.calls (rd l0 x8_1) A1_0 c1_0 l1_0 A1_1 c1_1 l1_1 true _ (CW HR1_0.out) HC1_0.out (CW HR1_1.out) HC1_1.out A6.out).mono ?_);rintro e w' ⟨rfl,⟨nd,rfl⟩⟩));go_ret;exact ⟨RF,DR⟩
    ·replace c7:=NF c7;subst c7;replace H:=IN H;have H':=AM H;clear H;have p238 : 0 ≤ (x8_1 : Int):=OD AS;have q238 : x8_1 < (l0.length : Int):=OD AS;obtain ⟨ad238,e238,hx238_0⟩:=Kd.at_int HR0.out x8_1 p238 q238;cases e238;replace p238:=ET p238;replace q238:=ET q238;go_wp2_with (first|(go_at_call 48;(with_reducible refine (impl_areOpposite_1.calls (rd l0 x8_1) A1_0 c1_0 l1_0 A1_1 c1_1 l1_1 false _ (CW HR1_0.out) HC1_0.out (CW HR1_1.out) HC1_1.out A6.out).mono ?_);rintro e w' ⟨rfl,⟨nd,rfl⟩⟩));go_roundg k1
     case measure=>have:=HK1.out;omega
     case rel=>exact ⟨(wrap64 (x8_1 + 1)),RF,H',⟨by have:=HK1.out;omega⟩,by repeat (first|exact Drawn0.refl _|apply Drawn0.step)⟩
   ·rw [if_neg c3] at H;have c3b0:=DF c3;clear c3;obtain rfl:=Option.some.inj H;go_wp2;go_ret;exact ⟨RF,DR⟩

/-! ### slices_ContainsFunc_int_int__impl_areOpposite_1: function 46 -/
def slices_ContainsFunc_int_int__impl_areOpposite_1.f (k : Nat) (l0 : List Int) (l1_0 : List (List Int)) (l1_1 : List Int) : Option (Bool):=(slices_IndexFunc_int_int__impl_areOpposite_1.f k l0 l1_0 l1_1).bind fun t240=>(some (decide (t240 ≥ 0)))
theorem slices_ContainsFunc_int_int__impl_areOpposite_1.mono : ∀ a0 a1 a2 k,LeO (slices_ContainsFunc_int_int__impl_areOpposite_1.f k a0 a1 a2) (slices_ContainsFunc_int_int__impl_areOpposite_1.f (k + 1) a0 a1 a2):=by
 intro a0 a1 a2 k;unfold slices_ContainsFunc_int_int__impl_areOpposite_1.f
 have m0:=@slices_IndexFunc_int_int__impl_areOpposite_1.mono
 exact MO
theorem slices_ContainsFunc_int_int__impl_areOpposite_1.calls (k : Nat) (A0 : Option Addr) (c0 : Nat) (l0 : List Int) (A1_0 : Option Addr) (c1_0 : Nat) (l1_0 : List (List Int)) (A1_1 : Option Addr) (c1_1 : Nat) (l1_1 : List Int) (r : Bool) (w : World) (hr0 : Kd.C (Kd.int .i64) w A0 l0.length l0) (hc0 : l0.length ≤ c0) (hr1_0 : Kd.C (Kd.slice 3 (Kd.int .i64)) w A1_0 l1_0.length l1_0) (hc1_0 : l1_0.length ≤ c1_0) (hr1_1 : Kd.C (Kd.int .i64) w A1_1 l1_1.length l1_1) (hc1_1 : l1_1.length ≤ c1_1) (h : slices_ContainsFunc_int_int__impl_areOpposite_1.f k l0 l1_0 l1_1 = some r) :
  Calls Try.prog 46 #[.slice A0 l0.length c0,.func (.func 48) #[] #[.pointer A1_0,.pointer A1_1]] w fun e w'=>e = .returned (.bool r)∧Drawn0 w w':=by
 have HR0:=AM hr0;have HC0:=AM hc0;clear hr0 hc0;have HR1_0:=AM hr1_0;have HC1_0:=AM hc1_0;clear hr1_0 hc1_0;have HR1_1:=AM hr1_1;have HC1_1:=AM hc1_1;clear hr1_1 hc1_1;have H : ((slices_IndexFunc_int_int__impl_areOpposite_1.f k l0 l1_0 l1_1).bind fun t240=>(some (decide (t240 ≥ 0)))) = some r:=h;clear h;replace H:=EA H;obtain ⟨t240,A3,H⟩:=H;obtain rfl:=Option.some.inj H;go_enter Try.func46,Try.ntmps46;go_wp2_with (first|(refine GC 73 ?_;refine GM (some 7) Try.func73 (slices_IndexFunc_int_int__impl_areOpposite_1.calls k _ _ l0 A1_0 c1_0 l1_0 A1_1 c1_1 l1_1 t240 _ (CW HR0.out) HC0.out (CW HR1_0.out) HC1_0.out (CW HR1_1.out) HC1_1.out A3.out) ?_;rintro e w' ⟨rfl,⟨nd,rfl⟩⟩;refine ⟨_,rfl,?_⟩));go_ret;exact ⟨RF,DR⟩

/-! ### impl_areOpposite: function 21 -/
def impl_areOpposite.f (k : Nat) (a0 : Int) (l1 : List Int) : Option (Bool):=(impl_areSigns.f k a0 l1).bind fun t242=>(if t242 = true then ((impl_square_border.f k a0).bind fun t244=>((slices_ContainsFunc_int_int__impl_areOpposite_1.f k t244 [l1] [wrap64 ((l1.length : Int) - 1)]).bind fun t247=>(some (!t247)))) else (some false))
theorem impl_areOpposite.mono : ∀ a0 a1 k,LeO (impl_areOpposite.f k a0 a1) (impl_areOpposite.f (k + 1) a0 a1):=by
 intro a0 a1 k;unfold impl_areOpposite.f
 have m0:=@impl_areSigns.mono
 have m1:=@impl_square_border.mono
 have m2:=@slices_ContainsFunc_int_int__impl_areOpposite_1.mono
 exact MO
theorem impl_areOpposite.calls (k : Nat) (a0 : Int) (A1 : Option Addr) (c1 : Nat) (l1 : List Int) (r : Bool) (w : World) (hr1 : Kd.C (Kd.int .i64) w A1 l1.length l1) (hc1 : l1.length ≤ c1) (h : impl_areOpposite.f k a0 l1 = some r) :
  Calls Try.prog 21 #[.int .i64 a0,.slice A1 l1.length c1] w fun e w'=>e = .returned (.bool r)∧Below w.heap.size w w':=by
 have hu43:=Try.underlying43;have HR1:=AM hr1;have HC1:=AM hc1;clear hr1 hc1;have HB:=HRf w;have H : ((impl_areSigns.f k a0 l1).bind fun t242=>(if t242 = true then ((impl_square_border.f k a0).bind fun t244=>((slices_ContainsFunc_int_int__impl_areOpposite_1.f k t244 [l1] [wrap64 ((l1.length : Int) - 1)]).bind fun t247=>(some (!t247)))) else (some false))) = some r:=h;clear h;replace H:=EA H;obtain ⟨t242,A3,H⟩:=H;by_cases c4 : t242 = true
 ·subst c4;replace H:=IP H;replace H:=EA H;obtain ⟨t244,A5,H⟩:=H;replace H:=EA H;obtain ⟨t247,A6,H⟩:=H;obtain rfl:=Option.some.inj H;go_enter Try.func21,Try.ntmps21;go_wp2_with (first|((with_reducible refine gate_dst (N:=3) rfl ?_);refine box_event ?hg (N:=3) ?hd (cs:=#[.slice A1 l1.length c1]) (t:=24) ?hr ?_;(case hd=>rfl);(case hg=>rfl);(case hr=>exact GS);intro gb241 hg w7 hbox hb;have BK241:=AM hbox;have GW241:=AM ((by rw [hg];exact (BZ BB) : w.heap.size ≤ gb241));have GE241:=AM ((by rw [hg];exact (BZ BB) : w.heap.size ≤ gb241));replace HB:=HS hb;clear hb hbox hg;have hcz8_0 : w7.cell? ⟨gb241,0,none⟩ = some (.slice A1 l1.length c1):=(BC BK241.out 0).trans rfl;have hfz8_0:=BF BK241.out 0)|(refine GC 35 ?_;refine GM (some 8) Try.func35 (impl_areSigns.calls k a0 _ _ l1 true _ (CW (Kd.C_below HR1.out HB.out)) HC1.out A3.out) ?_;rintro e w' ⟨rfl,⟨nd,rfl⟩⟩;refine ⟨_,rfl,?_⟩;(try (rw [drewN_self w7];generalize hq_ : World.drewN w7 _ = w7;have n0_ : Aside0 (w7.heap[gb241]? = some (.cells #[.slice A1 l1.length c1] 24 (0,0))):=⟨by rw [← hq_];exact (BW BK241)⟩;have n1_ : Aside0 (Below w.heap.size w w7):=⟨by rw [← hq_];exact (AGE GE241)⟩;clear BK241 HB hq_;have BK241:=n0_;have HB:=n1_;clear n0_ n1_;have hcq241_0 : w7.cell? ⟨gb241,0,none⟩ = some (.slice A1 l1.length c1):=(BC BK241.out 0).trans rfl;have hfq241_0:=BF BK241.out 0)))|((with_reducible refine gate_dst (N:=5) rfl ?_);refine box_event ?hg (N:=5) ?hd (cs:=#[.int .i64 0]) (t:=3) ?hr ?_;(case hd=>rfl);(case hg=>rfl);(case hr=>exact GS);intro gb243 hg w9 hbox hb;have BK243:=AM hbox;have GW243:=AM ((by rw [hg];exact (BZ (AGE GE241)) : w.heap.size ≤ gb243));have GE243:=AM ((by rw [hg];exact (BZ (AGE GE241)) : w.heap.size ≤ gb243));replace HB:=HG GE241 hb;have NB241_243:=AM ((by rw [hg];exact Nat.ne_of_lt (blk_lt (g:=gb241) (o:=.cells #[.slice A1 l1.length c1] 24 (0,0)) (BW BK241)) : gb241≠gb243));have NB243_241:=AM ((by rw [hg];exact Nat.ne_of_gt (blk_lt (g:=gb241) (o:=.cells #[.slice A1 l1.length c1] 24 (0,0)) (BW BK241)) : gb243≠gb241));replace BK241:=AM (blk_below (g:=gb241) (o:=.cells #[.slice A1 l1.length c1] 24 (0,0)) (BW BK241) hb);clear hb hbox hg;have hnb10:=NB243_241.out;have hnc10:=NB241_243.out;have hcz11_0 : w9.cell? ⟨gb243,0,none⟩ = some (.int .i64 0):=(BC BK243.out 0).trans rfl;have hfz11_0:=BF BK243.out 0)|(refine GC 47 ?_;refine GM (some 15) Try.func47 (impl_square_border.calls k a0 t244 _ A5.out) ?_;rintro e w12 ⟨v245,rfl,ho0,hb⟩;refine ⟨_,rfl,?_⟩;have HO246:=AM (Kd.R_lower (Kd.R_newB ho0 (g:=gb243) (o:=.cells #[.int .i64 (wrap64 ((l1.length : Int) - 1))] 3 (0,0)) (by (with_reducible repeat (first|refine blk_drewN ?_ _|refine blk_drew ?_|refine blk_alloc ?_ _));refine blk_put (cs:=#[.int .i64 0]) ?_ 0 _ rfl;(with_reducible repeat (first|refine blk_drewN ?_ _|refine blk_drew ?_|refine blk_alloc ?_ _));exact BK243.out)) (BZ (by repeat (first|(with_reducible first|exact HB.out|apply below_alloc|apply pw_below_drewN|apply below_drew1|refine below_set ?_ GE241.out|refine below_set ?_ GE243.out)|exact HB.out))));replace BK241:=AM (blk_below (g:=gb241) (o:=.cells #[.slice A1 l1.length c1] 24 (0,0)) (by (with_reducible repeat (first|refine blk_drewN ?_ _|refine blk_drew ?_|refine blk_alloc ?_ _));refine blk_far ?_ NB241_243.out _;(with_reducible repeat (first|refine blk_drewN ?_ _|refine blk_drew ?_|refine blk_alloc ?_ _));exact BK241.out) hb);replace BK243:=AM (blk_below (g:=gb243) (o:=.cells #[.int .i64 (wrap64 ((l1.length : Int) - 1))] 3 (0,0)) (by (with_reducible repeat (first|refine blk_drewN ?_ _|refine blk_drew ?_|refine blk_alloc ?_ _));refine blk_put (cs:=#[.int .i64 0]) ?_ 0 _ rfl;(with_reducible repeat (first|refine blk_drewN ?_ _|refine blk_drew ?_|refine blk_alloc ?_ _));exact BK243.out) hb);replace HB:=AM (below_step (by repeat (first|(with_reducible first|exact HB.out|apply below_alloc|apply pw_below_drewN|apply below_drew1|refine below_set ?_ GE241.out|refine below_set ?_ GE243.out)|exact HB.out)) hb);try clear hb ho0;obtain ⟨Ao13,co13,eo13⟩:=Kd.R_slice HO246.out;subst eo13)|(refine GC 46 ?_;refine GM (some 17) Try.func46 (slices_ContainsFunc_int_int__impl_areOpposite_1.calls k _ _ t244 (some ⟨gb241,0,none⟩) 1 [l1] (some ⟨gb243,0,none⟩) 1 [wrap64 ((l1.length : Int) - 1)] t247 _ ?side1 ?side2 ?side3 ?side4 ?side5 ?side6 A6.out) ?_;(case side1=>exact CW (Kd.R_reads' HO246.out).2.2);(case side2=>exact (Kd.R_reads' HO246.out).2.1);(case side3=>exact Kd.C_box (Kd.slice 3 (Kd.int .i64)) (g:=gb241) (t:=24) (cs:=#[.slice A1 l1.length c1]) (BW BK241) ⟨_,_,rfl,(by exact HC1.out),(CW (Kd.C_below HR1.out HB.out))⟩);(case side4=>exact Nat.le_refl _);(case side5=>exact Kd.C_box (Kd.int .i64) (g:=gb243) (t:=3) (cs:=#[.int .i64 (wrap64 ((l1.length : Int) - 1))]) (BW BK243) rfl);(case side6=>exact Nat.le_refl _);rintro e w' ⟨rfl,⟨nd,rfl⟩⟩;refine ⟨_,rfl,?_⟩));go_ret;exact ⟨RE,by repeat (first|(with_reducible first|exact HB.out|apply below_alloc|apply pw_below_drewN|apply below_drew1|refine below_set ?_ GE241.out|refine below_set ?_ GE243.out)|exact HB.out)⟩
 ·replace c4:=NF c4;subst c4;replace H:=IN H;obtain rfl:=Option.some.inj H;go_enter Try.func21,Try.ntmps21;go_wp2_with (first|((with_reducible refine gate_dst (N:=3) rfl ?_);refine box_event ?hg (N:=3) ?hd (cs:=#[.slice A1 l1.length c1]) (t:=24) ?hr ?_;(case hd=>rfl);(case hg=>rfl);(case hr=>exact GS);intro gb241 hg w14 hbox hb;have BK241:=AM hbox;have GW241:=AM ((by rw [hg];exact (BZ BB) : w.heap.size ≤ gb241));have GE241:=AM ((by rw [hg];exact (BZ BB) : w.heap.size ≤ gb241));replace HB:=HS hb;clear hb hbox hg;have hcz15_0 : w14.cell? ⟨gb241,0,none⟩ = some (.slice A1 l1.length c1):=(BC BK241.out 0).trans rfl;have hfz15_0:=BF BK241.out 0)|(refine GC 35 ?_;refine GM (some 8) Try.func35 (impl_areSigns.calls k a0 _ _ l1 false _ (CW (Kd.C_below HR1.out HB.out)) HC1.out A3.out) ?_;rintro e w' ⟨rfl,⟨nd,rfl⟩⟩;refine ⟨_,rfl,?_⟩));go_ret;exact ⟨RE,AGE GE241⟩

end Go.Proofs.Ytlolkkfpfjlhmaa.PFnOppositeEdgesFound
