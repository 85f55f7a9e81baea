-- Written by a program of this session (wip/tools/pp.sh) out of the translation; Lean checks it.
import Derived.Test.YtcecimigkndakabPFnExactFairCutx9
namespace Go.Proofs.Ytcecimigkndakab.PFnExactFairCut
open Go.RowKit Go.Proofs.YtcecimigkndakabOwn Go.Proofs.YtcecimigkndakabW.PrintWords Go.Proofs.YtcecimigkndakabW.PrintLast Go.Proofs.YtcecimigkndakabW.PrintMore
attribute [local go_sem] max2_int min2_int max_two min_two max_three min_three max_four min_four   -- for this text's walks alone
set_option linter.unusedVariables false
set_option maxHeartbeats 8000000
set_option maxRecDepth 100000
set_option linter.unusedSimpArgs false

/-! ### impl_cells: function 21 -/
mutual
def impl_cells.l0 : Nat→List (List Int)→List (S42)→List (S42)→Int→Int→Option ((List (List Int)))
 | 0,_,_,_,_,_=>none
 | k + 1,x3,x4,x12,x13,x14=>if x14 < x13 then (if 0 ≤ x14 then (if x14 < (x12.length : Int) then (impl_cells.l1 k x3 x4 x14 (wrap64 (x14 + 1)) x12 x13 x14 ((rd_T42 x12 x14).f0) ((rd_T42 x12 x14).f1) ((rd_T42 x12 x14).f2)) else (none)) else (none)) else (some x3)
def impl_cells.l1 : Nat→List (List Int)→List (S42)→Int→Int→List (S42)→Int→Int→Int→Int→Int→Option ((List (List Int)))
 | 0,_,_,_,_,_,_,_,_,_,_=>none
 | k + 1,x3,x4,x5,x7,x12,x13,x14,x325000,x325001,x325002=>if x7 < (x4.length : Int) then (impl_cells.l2 k x3 x4 x5 x7 (wrap64 (x7 + 1)) x12 x13 x14 x325000 x325001 x325002) else (impl_cells.l0 k x3 x4 x12 x13 (wrap64 (x14 + 1)))
def impl_cells.l2 : Nat→List (List Int)→List (S42)→Int→Int→Int→List (S42)→Int→Int→Int→Int→Int→Option ((List (List Int)))
 | 0,_,_,_,_,_,_,_,_,_,_,_=>none
 | k + 1,x3,x4,x5,x7,x8,x12,x13,x14,x325000,x325001,x325002=>if x8 < (x4.length : Int) then (if 0 ≤ x7 then (if x7 < (x4.length : Int) then ((impl_near.f k x325000 x325001 x325002 ((rd_T42 x4 x7).f0) ((rd_T42 x4 x7).f1) ((rd_T42 x4 x7).f2)).bind fun t326=>(impl_cells.j3 k x3 x4 x5 x7 x8 x12 x13 x14 t326 x325000 x325001 x325002)) else (none)) else (none)) else (impl_cells.j3 k x3 x4 x5 x7 x8 x12 x13 x14 false x325000 x325001 x325002)
def impl_cells.j3 : Nat→List (List Int)→List (S42)→Int→Int→Int→List (S42)→Int→Int→Bool→Int→Int→Int→Option ((List (List Int)))
 | 0,_,_,_,_,_,_,_,_,_,_,_,_=>none
 | k + 1,x3,x4,x5,x7,x8,x12,x13,x14,x40,x325000,x325001,x325002=>if x40 = true then (if 0 ≤ x8 then (if x8 < (x4.length : Int) then ((impl_near.f k x325000 x325001 x325002 ((rd_T42 x4 x8).f0) ((rd_T42 x4 x8).f1) ((rd_T42 x4 x8).f2)).bind fun t328=>(if t328 = true then (if 0 ≤ x7 then (if x7 < (x4.length : Int) then ((impl_near.f k ((rd_T42 x4 x7).f0) ((rd_T42 x4 x7).f1) ((rd_T42 x4 x7).f2) ((rd_T42 x4 x8).f0) ((rd_T42 x4 x8).f1) ((rd_T42 x4 x8).f2)).bind fun t331=>(if t331 = true then (if x3.length < 5864062014805 then (impl_cells.l2 k (x3 ++ [(([x5,x7,x8] : List Int))]) x4 x5 x7 (wrap64 (x8 + 1)) x12 x13 x14 x325000 x325001 x325002) else (none)) else (impl_cells.l2 k x3 x4 x5 x7 (wrap64 (x8 + 1)) x12 x13 x14 x325000 x325001 x325002))) else (none)) else (none)) else (impl_cells.l2 k x3 x4 x5 x7 (wrap64 (x8 + 1)) x12 x13 x14 x325000 x325001 x325002))) else (none)) else (none)) else (impl_cells.l1 k x3 x4 x5 (wrap64 (x7 + 1)) x12 x13 x14 x325000 x325001 x325002)
end
def impl_cells.f (k : Nat) (a0 : Int) : Option ((List (List Int))):=(impl_points.f k a0).bind fun t320=>(impl_cells.l0 k (([] : List (List Int))) t320 t320 (t320.length : Int) 0)
theorem impl_cells.mono_l : ∀ k,(∀ y0 y1 y2 y3 y4,LeO (impl_cells.l0 k y0 y1 y2 y3 y4) (impl_cells.l0 (k + 1) y0 y1 y2 y3 y4))∧(∀ y0 y1 y2 y3 y4 y5 y6 y7 y8 y9,LeO (impl_cells.l1 k y0 y1 y2 y3 y4 y5 y6 y7 y8 y9) (impl_cells.l1 (k + 1) y0 y1 y2 y3 y4 y5 y6 y7 y8 y9))∧(∀ y0 y1 y2 y3 y4 y5 y6 y7 y8 y9 y10,LeO (impl_cells.l2 k y0 y1 y2 y3 y4 y5 y6 y7 y8 y9 y10) (impl_cells.l2 (k + 1) y0 y1 y2 y3 y4 y5 y6 y7 y8 y9 y10))∧(∀ y0 y1 y2 y3 y4 y5 y6 y7 y8 y9 y10 y11,LeO (impl_cells.j3 k y0 y1 y2 y3 y4 y5 y6 y7 y8 y9 y10 y11) (impl_cells.j3 (k + 1) y0 y1 y2 y3 y4 y5 y6 y7 y8 y9 y10 y11))
 | 0=>⟨fun _ _ _ _ _=>LZ,fun _ _ _ _ _ _ _ _ _ _=>LZ,fun _ _ _ _ _ _ _ _ _ _ _=>LZ,fun _ _ _ _ _ _ _ _ _ _ _ _=>LZ⟩
 | k + 1=>by
  obtain ⟨ih0,ih1,ih2,ih3⟩:=impl_cells.mono_l k
  have m0:=@impl_near.mono
  have m1:=@impl_points.mono
  refine ⟨?_,?_,?_,?_⟩ <;> intros
  all_goals (first|unfold impl_cells.l0|unfold impl_cells.l1|unfold impl_cells.l2|unfold impl_cells.j3)
  all_goals exact MO
theorem impl_cells.mono : ∀ a0 k,LeO (impl_cells.f k a0) (impl_cells.f (k + 1) a0):=by
 intro a0 k;obtain ⟨ih0,ih1,ih2,ih3⟩:=impl_cells.mono_l k;unfold impl_cells.f
 have m0:=@impl_near.mono
 have m1:=@impl_points.mono
 exact MO
def impl_cells.T9 : Bool × List (List Nat × List Nat):=(true,[([],[]),([],[]),([1],[1]),([0,2],[0,2]),([3],[3]),([4],[4]),([4],[4]),([4],[4]),([6,7,4],[4,6,7]),([8,4],[4,8]),([5,9,4,4],[4,5,9]),([4,10],[4,10])])
def impl_cells.B9 : List Nat:=[0,0,2,7,15,31,31,31,223,479,1023,2047]
theorem impl_cells.tab9 : rtab .any (opsOf Try.f21 9) = impl_cells.T9:=by kernel_rfl
theorem impl_cells.bits9 : waitsOk impl_cells.T9.2 impl_cells.B9 = true:=by kernel_rfl
def impl_cells.T11 : Bool × List (List Nat × List Nat):=(true,[([],[]),([],[]),([],[]),([1,2],[1,2]),([3],[3]),([0,4],[0,4]),([5,5],[5]),([6],[6]),([6],[6]),([7,8,6],[6,7,8]),([9,6],[6,9]),([6],[6]),([6],[6]),([11,12,6],[6,11,12]),([13,6],[6,13]),([10,14,6,6],[6,10,14]),([6,15],[6,15])])
def impl_cells.B11 : List Nat:=[0,0,0,6,14,31,63,127,127,511,1023,127,127,6271,14463,32767,65535]
theorem impl_cells.tab11 : rtab .any (opsOf Try.f21 11) = impl_cells.T11:=by kernel_rfl
theorem impl_cells.bits11 : waitsOk impl_cells.T11.2 impl_cells.B11 = true:=by kernel_rfl
theorem impl_cells.calls (k : Nat) (a0 : Int) (r : List (List Int)) (w : World) (h : impl_cells.f k a0 = some r) :
  Calls Try.prog 21 #[.int .i64 a0] w fun e w'=>∃ v0_ : Value,e = .returned (v0_)∧Kd.S (Kd.slice 3 (Kd.int .i64)) 24 w' w.heap.size (fun _=>True) v0_ r∧Below w.heap.size w w':=by
 have hu42:=Try.underlying42;have HB:=HRf w;have H : ((impl_points.f k a0).bind fun t320=>(impl_cells.l0 k (([] : List (List Int))) t320 t320 (t320.length : Int) 0)) = some r:=h;clear h;obtain ⟨y317,hy317⟩ : ∃ y_ : List (List Int),y_ = (([] : List (List Int))):=⟨_,rfl⟩;replace H : ((impl_points.f k a0).bind fun t320=>(impl_cells.l0 k y317 t320 t320 (t320.length : Int) 0)) = some r:=HY H hy317;have Ny317:=AM hy317;clear hy317;replace H:=EA H;obtain ⟨t320,A2,H⟩:=H;have H':=AM H;clear H;go_enter Try.func21,Try.ntmps21;go_wp2_with (first|((with_reducible refine gate_dst (N:=9) rfl ?_);refine Kd.S_lit (Kd.slice 3 (Kd.int .i64)) _ 24 ?hg (N:=9) ?hd (xs:=([] : List (List Int))) (inner:=[]) (ok:=fun _=>True) (okp:=fun _=>True) ?hr ?hp (fun _ hk=>hk) trivial (Below.refl _ _) (Nat.le_refl _) (by simp) ?_;(case hd=>rfl);(case hg=>rfl);(case hr=>exact GS);(case hp=>exact (Reps.none _ _));intro v318 w3 ho4 hb hg_ hnew_;clear hg_ hnew_;(first|rw [← Ny317.out] at ho4|(simp only [Int.reduceToNat] at ho4;rw [← Ny317.out] at ho4));have HO319:=AM (Kd.S_lower ho4 (BZ BB));replace HB:=HS hb;clear hb ho4)|(refine GC 22 ?_;refine GM (some 11) Try.func22 (impl_points.calls k a0 t320 _ A2.out) ?_;rintro e w5 ⟨v321,rfl,ho0,hb⟩;refine ⟨_,rfl,?_⟩;replace HO319:=SB HO319 hb;have HO322:=AM (Kd.R_lower ho0 (BZ BB));replace HB:=HS hb;try clear hb ho0;obtain ⟨Ao6,co6,eo6⟩:=Kd.R_slice HO322.out;subst eo6));go_loopg [3,14] k (fun kq v3 v14 w'=>∃ (x3_1 : List (List Int)) (x14_1 : Int),v14 = .int .i64 x14_1∧Aside0 (impl_cells.l0 kq x3_1 t320 t320 (t320.length : Int) x14_1 = some r)∧Aside0 (kq ≤ k)∧Aside0 (Kd.S (Kd.slice 3 (Kd.int .i64)) 24 w' w.heap.size (fun _=>True) v3 x3_1)∧Aside0 (Kd.R k42 42 w' w.heap.size (fun _=>True) (.slice Ao6 t320.length co6) t320)∧Aside0 (Kd.R k42 42 w' w.heap.size (fun _=>True) (.slice Ao6 t320.length co6) t320)∧Aside0 (Below w.heap.size w w'))
 case atStart=>exact ⟨(y317),(0),RF,H',⟨Nat.le_refl _⟩,⟨KS HO319⟩,⟨KR HO322⟩,⟨KR HO322⟩,⟨BB⟩⟩
 case round =>
  clear H';try clear c2
  try clear p2
  try clear p6
  obtain ⟨x3_1,x14_1,rfl,HA,HK1,HO_3,HO_4,HO_12,HB⟩:=hrel;cases gk with
  | zero=>exact absurd HA.out (by simp [impl_cells.l0])
  | succ k1 =>
   have H:=HA.out;clear HA;simp only [impl_cells.l0] at H;by_cases c7 : x14_1 < (t320.length : Int)
   ·rw [if_pos c7] at H;have c7b0:=DT c7;clear c7;replace H:=IC H;obtain ⟨c8,H⟩:=H;have c8b0:=DT c8;clear c8;replace H:=IC H;obtain ⟨c9,H⟩:=H;have c9b0:=DT c9;clear c9;have H':=AM H;clear H;have p323 : 0 ≤ (x14_1 : Int):=OD AS;have q323 : x14_1 < (t320.length : Int):=OD AS;obtain ⟨ad323,e323,hx323_0,hx323_1,hx323_2⟩:=at_T42 (Kd.R_reads' HO_12.out).2.2 x14_1 p323 q323;cases e323;replace p323:=ET p323;replace q323:=ET q323;go_wp2_with (first|((with_reducible refine gate_dst (N:=6) rfl ?_);refine box_event ?hg (N:=6) ?hd (cs:=#[.int .i64 0,.int .i64 0,.int .i64 0]) (t:=42) ?hr ?_;(case hd=>rfl);(case hg=>rfl);(case hr=>exact GS);intro gb324 hg w10 hbox hb;replace HO_3:=SB HO_3 hb;replace HO_4:=AM (Kd.R_below (Kd.R_elderB (KR HO_4) gb324 (Nat.le_of_eq hg.symm)) hb);replace HO_12:=AM (Kd.R_below (Kd.R_elderB (KR HO_12) gb324 (Nat.le_of_eq hg.symm)) hb);have BK324:=AM hbox;have GW324:=AM ((by rw [hg];exact (BZ BB) : w.heap.size ≤ gb324));have GE324:=AM ((by rw [hg];exact (BZ BB) : w.heap.size ≤ gb324));replace HB:=HS hb;clear hb hbox hg;have hcz11_0 : w10.cell? ⟨gb324,0,none⟩ = some (.int .i64 0):=(BC BK324.out 0).trans rfl;have hcz11_1 : w10.cell? ⟨gb324,1,none⟩ = some (.int .i64 0):=(BC BK324.out 1).trans rfl;have hcz11_2 : w10.cell? ⟨gb324,2,none⟩ = some (.int .i64 0):=(BC BK324.out 2).trans rfl;have hfz11_0:=BF BK324.out 0;have hfz11_1:=BF BK324.out 1;have hfz11_2:=BF BK324.out 2));go_loopg [3,7] k1 (fun kq v3 v7 w'=>∃ (x3_2 : List (List Int)) (x7_2 : Int),v7 = .int .i64 x7_2∧Aside0 (impl_cells.l1 kq x3_2 t320 x14_1 x7_2 t320 (t320.length : Int) x14_1 ((rd_T42 t320 x14_1).f0) ((rd_T42 t320 x14_1).f1) ((rd_T42 t320 x14_1).f2) = some r)∧Aside0 (kq ≤ k1)∧Aside0 (Kd.S (Kd.slice 3 (Kd.int .i64)) 24 w' w.heap.size (fun _=>True) v3 x3_2)∧Aside0 (Kd.R k42 42 w' w.heap.size (fun k_=>k_≠gb324) (.slice (some ad323) t320.length co6) t320)∧Aside0 (Kd.R k42 42 w' w.heap.size (fun k_=>k_≠gb324) (.slice (some ad323) t320.length co6) t320)∧Aside0 (w'.heap[gb324]? = some (.cells #[.int .i64 ((rd_T42 t320 x14_1).f0),.int .i64 ((rd_T42 t320 x14_1).f1),.int .i64 ((rd_T42 t320 x14_1).f2)] 42 (0,0)))∧Aside0 (Below w.heap.size w w'))
    case atStart=>exact ⟨(x3_1),(wrap64 (x14_1 + 1)),RF,H',⟨Nat.le_refl _⟩,⟨by (with_reducible repeat (first|apply Kd.S_alloc|apply Kd.S_drewN|apply Kd.S_drew));exact Kd.S_mono (Kd.S_far (p:=⟨gb324,2,none⟩) (Kd.S_far (p:=⟨gb324,1,none⟩) (Kd.S_far (p:=⟨gb324,0,none⟩) (Kd.S_types HO_3.out BK324.out (by decide)) (fun _ hk=>hk.2) (.int .i64 ((rd_T42 t320 x14_1).f0))) (fun _ hk=>hk.2) (.int .i64 ((rd_T42 t320 x14_1).f1))) (fun _ hk=>hk.2) (.int .i64 ((rd_T42 t320 x14_1).f2))) (fun _ hk=>trivial)⟩,⟨by (with_reducible repeat (first|apply Kd.R_alloc|apply Kd.R_drewN|apply Kd.R_drew));exact Kd.R_mono (Kd.R_far (p:=⟨gb324,2,none⟩) (Kd.R_far (p:=⟨gb324,1,none⟩) (Kd.R_far (p:=⟨gb324,0,none⟩) (Kd.R_mono HO_4.out (fun k_ hk=>(⟨hk,hk.2⟩ : _∧k_≠gb324))) (fun _ hk=>hk.2) (.int .i64 ((rd_T42 t320 x14_1).f0))) (fun _ hk=>hk.2) (.int .i64 ((rd_T42 t320 x14_1).f1))) (fun _ hk=>hk.2) (.int .i64 ((rd_T42 t320 x14_1).f2))) (fun _ hk=>hk.1.2)⟩,⟨by (with_reducible repeat (first|apply Kd.R_alloc|apply Kd.R_drewN|apply Kd.R_drew));exact Kd.R_mono (Kd.R_far (p:=⟨gb324,2,none⟩) (Kd.R_far (p:=⟨gb324,1,none⟩) (Kd.R_far (p:=⟨gb324,0,none⟩) (Kd.R_mono HO_12.out (fun k_ hk=>(⟨hk,hk.2⟩ : _∧k_≠gb324))) (fun _ hk=>hk.2) (.int .i64 ((rd_T42 t320 x14_1).f0))) (fun _ hk=>hk.2) (.int .i64 ((rd_T42 t320 x14_1).f1))) (fun _ hk=>hk.2) (.int .i64 ((rd_T42 t320 x14_1).f2))) (fun _ hk=>hk.1.2)⟩,⟨by (with_reducible repeat (first|refine blk_drewN ?_ _|refine blk_drew ?_|refine blk_alloc ?_ _));refine blk_put (cs:=#[.int .i64 ((rd_T42 t320 x14_1).f0),.int .i64 ((rd_T42 t320 x14_1).f1),.int .i64 0]) ?_ 2 _ rfl;(with_reducible repeat (first|refine blk_drewN ?_ _|refine blk_drew ?_|refine blk_alloc ?_ _));refine blk_put (cs:=#[.int .i64 ((rd_T42 t320 x14_1).f0),.int .i64 0,.int .i64 0]) ?_ 1 _ rfl;(with_reducible repeat (first|refine blk_drewN ?_ _|refine blk_drew ?_|refine blk_alloc ?_ _));refine blk_put (cs:=#[.int .i64 0,.int .i64 0,.int .i64 0]) ?_ 0 _ rfl;(with_reducible repeat (first|refine blk_drewN ?_ _|refine blk_drew ?_|refine blk_alloc ?_ _));exact BK324.out⟩,⟨AGE GE324⟩⟩
    case round =>
     clear H';try clear c2
     try clear p2
     try clear p3
     try clear q3
     try clear hx3
     try clear p6
     try clear c7
     try clear c7b0
     try clear c8
     try clear c8b0
     try clear c9
     try clear c9b0
     try clear hcz11_0
     try clear hcz11_1
     try clear hcz11_2
     try clear hfz11_0
     try clear hfz11_1
     try clear hfz11_2
     try clear hx323_0
     try clear hx323_1
     try clear hx323_2
     try clear p2
     try clear p323
     try clear p6
     try clear q323
     obtain ⟨x3_2,x7_2,rfl,HA,HK2,HO_3,HO_4,HO_12,BK324,HB⟩:=hrel;cases gk with
     | zero=>exact absurd HA.out (by simp [impl_cells.l1])
     | succ k2 =>
      have H:=HA.out;clear HA;simp only [impl_cells.l1] at H;by_cases c12 : x7_2 < (t320.length : Int)
      ·rw [if_pos c12] at H;have c12b0:=DT c12;clear c12;have H':=AM H;clear H;go_wp2;go_loopg [3,8] k2 (fun kq v3 v8 w'=>∃ (x3_3 : List (List Int)) (x8_3 : Int),v8 = .int .i64 x8_3∧Aside0 (impl_cells.l2 kq x3_3 t320 x14_1 x7_2 x8_3 t320 (t320.length : Int) x14_1 ((rd_T42 t320 x14_1).f0) ((rd_T42 t320 x14_1).f1) ((rd_T42 t320 x14_1).f2) = some r)∧Aside0 (kq ≤ k2)∧Aside0 (Kd.S (Kd.slice 3 (Kd.int .i64)) 24 w' w.heap.size (fun _=>True) v3 x3_3)∧Aside0 (Kd.R k42 42 w' w.heap.size (fun k_=>k_≠gb324) (.slice (some ad323) t320.length co6) t320)∧Aside0 (Kd.R k42 42 w' w.heap.size (fun k_=>k_≠gb324) (.slice (some ad323) t320.length co6) t320)∧Aside0 (w'.heap[gb324]? = some (.cells #[.int .i64 ((rd_T42 t320 x14_1).f0),.int .i64 ((rd_T42 t320 x14_1).f1),.int .i64 ((rd_T42 t320 x14_1).f2)] 42 (0,0)))∧Aside0 (Below w.heap.size w w'))
       case atStart=>exact ⟨(x3_2),(wrap64 (x7_2 + 1)),RF,H',⟨Nat.le_refl _⟩,⟨KS HO_3⟩,⟨KR HO_4⟩,⟨KR HO_12⟩,⟨by (with_reducible repeat (first|refine blk_drewN ?_ _|refine blk_drew ?_|refine blk_alloc ?_ _));exact BK324.out⟩,⟨AGE GE324⟩⟩
       case round =>
        clear H';try clear c1
        try clear c2
        try clear p2
        try clear p3
        try clear q3
        try clear hx3
        try clear p6
        try clear c7
        try clear c7b0
        try clear c8
        try clear c8b0
        try clear c9
        try clear c9b0
        try clear c12
        try clear c12b0
        try clear hcz11_0
        try clear hcz11_1
        try clear hcz11_2
        try clear hfz11_0
        try clear hfz11_1
        try clear hfz11_2
        try clear hx323_0
        try clear hx323_1
        try clear hx323_2
        try clear p2
        try clear p3
        try clear p323
        try clear p6
        try clear q3
        try clear q323
        obtain ⟨x3_3,x8_3,rfl,HA,HK3,HO_3,HO_4,HO_12,BK324,HB⟩:=hrel;cases gk with
        | zero=>exact absurd HA.out (by simp [impl_cells.l2])
        | succ k3 =>
         have H:=HA.out;clear HA;simp only [impl_cells.l2] at H;have HC13:=AM H;clear H;go_upto_region 9 with (fail)
         go_cut [40] (fun v40 wc=>∃ (kq : Nat) (x40_12 : Bool),v40 = .bool x40_12∧Aside0 (impl_cells.j3 kq x3_3 t320 x14_1 x7_2 x8_3 t320 (t320.length : Int) x14_1 x40_12 ((rd_T42 t320 x14_1).f0) ((rd_T42 t320 x14_1).f1) ((rd_T42 t320 x14_1).f2) = some r)∧Aside0 (kq ≤ k3)∧Aside0 (Kd.S (Kd.slice 3 (Kd.int .i64)) 24 wc w.heap.size (fun _=>True) u3 x3_3)∧Aside0 (Kd.R k42 42 wc w.heap.size (fun k_=>k_≠gb324) (.slice (some ad323) t320.length co6) t320)∧Aside0 (Kd.R k42 42 wc w.heap.size (fun k_=>k_≠gb324) (.slice (some ad323) t320.length co6) t320)∧Aside0 (wc.heap[gb324]? = some (.cells #[.int .i64 ((rd_T42 t320 x14_1).f0),.int .i64 ((rd_T42 t320 x14_1).f1),.int .i64 ((rd_T42 t320 x14_1).f2)] 42 (0,0)))∧Aside0 (Below w.heap.size w wc))
         case first =>
          have H:=HC13.out;clear HC13;by_cases c14 : x8_3 < (t320.length : Int)
          ·rw [if_pos c14] at H;have c14b0:=DT c14;clear c14
           (first|rw [c14b0]|(simp only [i64_w,i32_w];rw [c14b0])|skip);replace H:=IC H;obtain ⟨c15,H⟩:=H;have c15b0:=DT c15;clear c15;replace H:=IC H;obtain ⟨c16,H⟩:=H;have c16b0:=DT c16;clear c16;replace H:=EA H;obtain ⟨t326,A17,H⟩:=H;have H':=AM H;clear H;try go_wp2
           replace HO_3:=AM (Kd.S_drew HO_3.out);replace HO_4:=AM (Kd.R_drew HO_4.out);replace HO_12:=AM (Kd.R_drew HO_12.out);replace BK324:=AM (blk_drew BK324.out);replace HB:=AM (below_drew1 HB.out);have p325 : 0 ≤ (x7_2 : Int):=OD AS;have q325 : x7_2 < (t320.length : Int):=OD AS;obtain ⟨ad325,e325,hx325_0,hx325_1,hx325_2⟩:=at_T42 (Kd.R_reads' HO_4.out).2.2 x7_2 p325 q325;obtain rfl : ad323 = ad325:=(by injection e325);replace p325:=ET p325;replace q325:=ET q325;refine PSt (n:=12) (S:=fun w'=>w'.cell? ⟨gb324,0,none⟩ = some (.int .i64 ((rd_T42 t320 x14_1).f0))∧w'.cell? ⟨gb324,1,none⟩ = some (.int .i64 ((rd_T42 t320 x14_1).f1))∧w'.cell? ⟨gb324,2,none⟩ = some (.int .i64 ((rd_T42 t320 x14_1).f2))∧w'.cell? (ad323.add ((x7_2).toNat * 3)) = some (.int .i64 ((rd_T42 t320 x7_2).f0))∧w'.cell? ⟨(ad323.add ((x7_2).toNat * 3)).block,(ad323.add ((x7_2).toNat * 3)).off + 1,none⟩ = some (.int .i64 ((rd_T42 t320 x7_2).f1))∧w'.cell? ⟨(ad323.add ((x7_2).toNat * 3)).block,(ad323.add ((x7_2).toNat * 3)).off + 2,none⟩ = some (.int .i64 ((rd_T42 t320 x7_2).f2))) (ds:=[]) ⟨(BC BK324.out 0).trans rfl,(BC BK324.out 1).trans rfl,(BC BK324.out 2).trans rfl,hx325_0,hx325_1,hx325_2⟩ (fun hHeld=>?_);refine with_tabW impl_cells.tab9 impl_cells.bits9 (fun HT_ HW_=>?_);generalize wr.drew = w18 at HO_3 HO_4 HO_12 BK324 HB hx325_0 hx325_1 hx325_2 hHeld ⊢;refine PA 0 29 HT_ ?_;refine PA 1 30 HT_ ?_;refine PA 2 31 HT_ ?_;refine PA 3 32 HT_ ?_;refine PA 4 33 HT_ ?_;refine PA 6 35 HT_ ?_;refine PA 7 36 HT_ ?_;refine PA 8 37 HT_ ?_;refine PB 5 34 HT_ HW_ hHeld ?_;refine PB 9 38 HT_ HW_ hHeld ?_;refine PC 10 39 HT_ (fun K hK=>?_);refine goes_ Try.func38 (by kernel_rfl) rfl #[.agg #[.int .i64 ((rd_T42 t320 x14_1).f0),.int .i64 ((rd_T42 t320 x14_1).f1),.int .i64 ((rd_T42 t320 x14_1).f2)],.agg #[.int .i64 ((rd_T42 t320 x7_2).f0),.int .i64 ((rd_T42 t320 x7_2).f1),.int .i64 ((rd_T42 t320 x7_2).f2)]] (by rfl) rfl rfl TA ?_;with_reducible refine (impl_near.calls k3 ((rd_T42 t320 x14_1).f0) ((rd_T42 t320 x14_1).f1) ((rd_T42 t320 x14_1).f2) ((rd_T42 t320 x7_2).f0) ((rd_T42 t320 x7_2).f1) ((rd_T42 t320 x7_2).f2) t326 _ A17.out).mono ?_;rintro e w19 ⟨rfl,hb⟩;have HS3_:=LD hb hHeld.2.2.2.1;have HS4_:=LD hb hHeld.2.2.2.2.1;have HS5_:=LD hb hHeld.2.2.2.2.2;refine ⟨_,rfl,?_⟩;replace HO_3:=SB HO_3 hb;replace HO_4:=RB HO_4 hb;replace HO_12:=RB HO_12 hb;replace BK324:=AM (blk_below (g:=gb324) (o:=.cells #[.int .i64 ((rd_T42 t320 x14_1).f0),.int .i64 ((rd_T42 t320 x14_1).f1),.int .i64 ((rd_T42 t320 x14_1).f2)] 42 (0,0)) (BW BK324) hb);replace HB:=HG GE324 hb;try clear hb
           refine hK.out _ _ ⟨(BC BK324.out 0).trans rfl,(BC BK324.out 1).trans rfl,(BC BK324.out 2).trans rfl,HS3_,HS4_,HS5_⟩ (fun hHeld=>?_);clear hK K;refine norm_ (a':=?_) ?_ ?_;rotate_left
           ·show Act.put _ (some 39) _ = _;simp only [Act.put,List.setIfInBounds_toArray,List.set_cons_zero,List.set_cons_succ,i64_w,i32_w];rfl
           refine PA 11 40 HT_ ?_;refine done_ (done_of HT_.out (by kernel_rfl)) ?_;try go_wp2
           go_meet
           case rel=>exact ⟨_,(t326),RF,H',⟨by have:=HK1.out;have:=HK2.out;have:=HK3.out;first|omega|exact Nat.le_refl _⟩,⟨KS HO_3⟩,⟨KR HO_4⟩,⟨KR HO_12⟩,⟨by (with_reducible repeat (first|refine blk_drewN ?_ _|refine blk_drew ?_|refine blk_alloc ?_ _));exact BK324.out⟩,⟨AGE GE324⟩⟩
          ·rw [if_neg c14] at H;have c14b0:=DF c14;clear c14
           (first|rw [c14b0]|(simp only [i64_w,i32_w];rw [c14b0])|skip);have H':=AM H;clear H;try go_wp2
           replace HO_3:=AM (Kd.S_drew HO_3.out);replace HO_4:=AM (Kd.R_drew HO_4.out);replace HO_12:=AM (Kd.R_drew HO_12.out);replace BK324:=AM (blk_drew BK324.out);replace HB:=AM (below_drew1 HB.out);refine PSt (n:=12) (S:=fun w'=>True) (ds:=[]) trivial (fun hHeld=>?_);refine with_tabW impl_cells.tab9 impl_cells.bits9 (fun HT_ HW_=>?_);generalize wr.drew = w20 at HO_3 HO_4 HO_12 BK324 HB hHeld ⊢;refine PA 0 29 HT_ ?_;refine PA 1 30 HT_ ?_;refine PA 2 31 HT_ ?_;refine PA 3 32 HT_ ?_;refine PA 4 33 HT_ ?_;refine pure_ (i:=5) (N:=some 34) (v:=undef) (a':=?_) #[true,true,true,true,true,true,false,false,false,false,false,false] rfl rfl (any_of HT_.out (by kernel_rfl)) (fun _ _ _ h=>h) (Or.inr ⟨by rfl,rfl⟩) ?_ ?_;rotate_left
           ·exact PU
           refine pure_ (i:=6) (N:=some 35) (v:=undef) (a':=?_) #[true,true,true,true,true,true,true,false,false,false,false,false] rfl rfl (any_of HT_.out (by kernel_rfl)) (fun _ _ _ h=>h) (Or.inr ⟨by rfl,rfl⟩) ?_ ?_;rotate_left
           ·exact PU
           refine pure_ (i:=7) (N:=some 36) (v:=undef) (a':=?_) #[true,true,true,true,true,true,true,true,false,false,false,false] rfl rfl (any_of HT_.out (by kernel_rfl)) (fun _ _ _ h=>h) (Or.inr ⟨by rfl,rfl⟩) ?_ ?_;rotate_left
           ·exact PU
           refine pure_ (i:=8) (N:=some 37) (v:=undef) (a':=?_) #[true,true,true,true,true,true,true,true,true,false,false,false] rfl rfl (any_of HT_.out (by kernel_rfl)) (fun _ _ _ h=>h) (Or.inr ⟨by rfl,rfl⟩) ?_ ?_;rotate_left
           ·exact PU
           refine pure_ (i:=9) (N:=some 38) (v:=undef) (a':=?_) #[true,true,true,true,true,true,true,true,true,true,false,false] rfl rfl (any_of HT_.out (by kernel_rfl)) (fun _ _ _ h=>h) (Or.inr ⟨by rfl,rfl⟩) ?_ ?_;rotate_left
           ·exact PU
           refine pure_ (i:=10) (N:=some 39) (v:=undef) (a':=?_) #[true,true,true,true,true,true,true,true,true,true,true,false] rfl rfl (any_of HT_.out (by kernel_rfl)) (fun _ _ _ h=>h) (Or.inr ⟨by rfl,rfl⟩) ?_ ?_;rotate_left
           ·exact PU
           refine PA 11 40 HT_ ?_;refine done_ (done_of HT_.out (by kernel_rfl)) ?_;try go_wp2
           go_meet
           case rel=>exact ⟨_,(false),RF,H',⟨by have:=HK1.out;have:=HK2.out;have:=HK3.out;first|omega|exact Nat.le_refl _⟩,⟨KS HO_3⟩,⟨KR HO_4⟩,⟨KR HO_12⟩,⟨by (with_reducible repeat (first|refine blk_drewN ?_ _|refine blk_drew ?_|refine blk_alloc ?_ _));exact BK324.out⟩,⟨AGE GE324⟩⟩
         case rest =>
          clear HC13;try clear c1
          try clear c2
          try clear p2
          try clear c3
          try clear p3
          try clear q3
          try clear hx3
          try clear p6
          try clear c7
          try clear c7b0
          try clear c8
          try clear c8b0
          try clear c9
          try clear c9b0
          try clear c12
          try clear c12b0
          try clear c14
          try clear c14b0
          try clear c15
          try clear c15b0
          try clear c16
          try clear c16b0
          try clear hcz11_0
          try clear hcz11_1
          try clear hcz11_2
          try clear hfz11_0
          try clear hfz11_1
          try clear hfz11_2
          try clear hx323_0
          try clear hx323_1
          try clear hx323_2
          try clear hx325_0
          try clear hx325_1
          try clear hx325_2
          try clear p2
          try clear p3
          try clear p323
          try clear p325
          try clear p6
          try clear q3
          try clear q323
          try clear q325
          obtain ⟨kq,x40_12,rfl,HA,HJ12,HO_3,HO_4,HO_12,BK324,HB⟩:=hcut;cases kq with
          | zero=>exact absurd HA.out (by simp [impl_cells.j3])
          | succ kj12 =>
           have H:=HA.out;clear HA;simp only [impl_cells.j3] at H;by_cases c21 : x40_12 = true
           ·subst c21;replace H:=IP H;replace H:=IC H;obtain ⟨c22,H⟩:=H;have c22b0:=DT c22;clear c22;replace H:=IC H;obtain ⟨c23,H⟩:=H;have c23b0:=DT c23;clear c23;replace H:=EA H;obtain ⟨t328,A24,H⟩:=H;by_cases c25 : t328 = true
            ·subst c25;replace H:=IP H;replace H:=IC H;obtain ⟨c26,H⟩:=H;have c26b0:=DT c26;clear c26;replace H:=IC H;obtain ⟨c27,H⟩:=H;have c27b0:=DT c27;clear c27;replace H:=EA H;obtain ⟨t331,A28,H⟩:=H;by_cases c29 : t331 = true
             ·subst c29;replace H:=IP H;obtain ⟨y332,hy332⟩ : ∃ y_ : List Int,y_ = (([x14_1,x7_2,x8_3] : List Int)):=⟨_,rfl⟩;replace H : (if x3_3.length < 5864062014805 then (impl_cells.l2 kj12 (x3_3 ++ [y332]) t320 x14_1 x7_2 (wrap64 (x8_3 + 1)) t320 (t320.length : Int) x14_1 ((rd_T42 t320 x14_1).f0) ((rd_T42 t320 x14_1).f1) ((rd_T42 t320 x14_1).f2)) else (none)) = some r:=HY H hy332;have Ny332:=AM hy332;clear hy332;replace H:=IC H;obtain ⟨c30,H⟩:=H;have LMc30:=AM c30;clear c30;obtain ⟨y335,hy335⟩ : ∃ y_ : List (List Int),y_ = (x3_3 ++ [y332]):=⟨_,rfl⟩;replace H : (impl_cells.l2 kj12 y335 t320 x14_1 x7_2 (wrap64 (x8_3 + 1)) t320 (t320.length : Int) x14_1 ((rd_T42 t320 x14_1).f0) ((rd_T42 t320 x14_1).f1) ((rd_T42 t320 x14_1).f2)) = some r:=HY H hy335;have Ny335:=AM hy335;clear hy335;have H':=AM H;clear H;try go_wp2
              replace HO_3:=AM (Kd.S_drew HO_3.out);replace HO_4:=AM (Kd.R_drew HO_4.out);replace HO_12:=AM (Kd.R_drew HO_12.out);replace BK324:=AM (blk_drew BK324.out);replace HB:=AM (below_drew1 HB.out);have p327 : 0 ≤ (x8_3 : Int):=OD AS;have q327 : x8_3 < (t320.length : Int):=OD AS;obtain ⟨ad327,e327,hx327_0,hx327_1,hx327_2⟩:=at_T42 (Kd.R_reads' HO_4.out).2.2 x8_3 p327 q327;obtain rfl : ad323 = ad327:=(by injection e327);replace p327:=ET p327;replace q327:=ET q327;have p329 : 0 ≤ (x7_2 : Int):=OD AS;have q329 : x7_2 < (t320.length : Int):=OD AS;obtain ⟨ad329,e329,hx329_0,hx329_1,hx329_2⟩:=at_T42 (Kd.R_reads' HO_4.out).2.2 x7_2 p329 q329;obtain rfl : ad323 = ad329:=(by injection e329);replace p329:=ET p329;replace q329:=ET q329;have p330 : 0 ≤ (x8_3 : Int):=OD AS;have q330 : x8_3 < (t320.length : Int):=OD AS;obtain ⟨ad330,e330,hx330_0,hx330_1,hx330_2⟩:=at_T42 (Kd.R_reads' HO_4.out).2.2 x8_3 p330 q330;obtain rfl : ad323 = ad330:=(by injection e330);replace p330:=ET p330;replace q330:=ET q330;refine PSt (n:=17) (S:=fun w'=>w'.cell? ⟨gb324,0,none⟩ = some (.int .i64 ((rd_T42 t320 x14_1).f0))∧w'.cell? ⟨gb324,1,none⟩ = some (.int .i64 ((rd_T42 t320 x14_1).f1))∧w'.cell? ⟨gb324,2,none⟩ = some (.int .i64 ((rd_T42 t320 x14_1).f2))∧w'.cell? (ad323.add ((x8_3).toNat * 3)) = some (.int .i64 ((rd_T42 t320 x8_3).f0))∧w'.cell? ⟨(ad323.add ((x8_3).toNat * 3)).block,(ad323.add ((x8_3).toNat * 3)).off + 1,none⟩ = some (.int .i64 ((rd_T42 t320 x8_3).f1))∧w'.cell? ⟨(ad323.add ((x8_3).toNat * 3)).block,(ad323.add ((x8_3).toNat * 3)).off + 2,none⟩ = some (.int .i64 ((rd_T42 t320 x8_3).f2))∧w'.cell? (ad323.add ((x7_2).toNat * 3)) = some (.int .i64 ((rd_T42 t320 x7_2).f0))∧w'.cell? ⟨(ad323.add ((x7_2).toNat * 3)).block,(ad323.add ((x7_2).toNat * 3)).off + 1,none⟩ = some (.int .i64 ((rd_T42 t320 x7_2).f1))∧w'.cell? ⟨(ad323.add ((x7_2).toNat * 3)).block,(ad323.add ((x7_2).toNat * 3)).off + 2,none⟩ = some (.int .i64 ((rd_T42 t320 x7_2).f2))∧w'.cell? (ad323.add ((x8_3).toNat * 3)) = some (.int .i64 ((rd_T42 t320 x8_3).f0))∧w'.cell? ⟨(ad323.add ((x8_3).toNat * 3)).block,(ad323.add ((x8_3).toNat * 3)).off + 1,none⟩ = some (.int .i64 ((rd_T42 t320 x8_3).f1))∧w'.cell? ⟨(ad323.add ((x8_3).toNat * 3)).block,(ad323.add ((x8_3).toNat * 3)).off + 2,none⟩ = some (.int .i64 ((rd_T42 t320 x8_3).f2))) (ds:=[]) ⟨(BC BK324.out 0).trans rfl,(BC BK324.out 1).trans rfl,(BC BK324.out 2).trans rfl,hx327_0,hx327_1,hx327_2,hx329_0,hx329_1,hx329_2,hx330_0,hx330_1,hx330_2⟩ (fun hHeld=>?_);refine with_tabW impl_cells.tab11 impl_cells.bits11 (fun HT_ HW_=>?_);generalize wc.drew = w31 at HO_3 HO_4 HO_12 BK324 HB hx327_0 hx327_1 hx327_2 hx329_0 hx329_1 hx329_2 hx330_0 hx330_1 hx330_2 hHeld ⊢;refine PA 1 44 HT_ ?_;refine PA 2 45 HT_ ?_;refine PA 3 46 HT_ ?_;refine PB 0 43 HT_ HW_ hHeld ?_;refine PB 4 47 HT_ HW_ hHeld ?_;refine PC 5 48 HT_ (fun K hK=>?_);refine goes_ Try.func38 (by kernel_rfl) rfl #[.agg #[.int .i64 ((rd_T42 t320 x14_1).f0),.int .i64 ((rd_T42 t320 x14_1).f1),.int .i64 ((rd_T42 t320 x14_1).f2)],.agg #[.int .i64 ((rd_T42 t320 x8_3).f0),.int .i64 ((rd_T42 t320 x8_3).f1),.int .i64 ((rd_T42 t320 x8_3).f2)]] (by rfl) rfl rfl TA ?_;with_reducible refine (impl_near.calls kj12 ((rd_T42 t320 x14_1).f0) ((rd_T42 t320 x14_1).f1) ((rd_T42 t320 x14_1).f2) ((rd_T42 t320 x8_3).f0) ((rd_T42 t320 x8_3).f1) ((rd_T42 t320 x8_3).f2) true _ A24.out).mono ?_;rintro e w32 ⟨rfl,hb⟩;have HS3_:=LD hb hHeld.2.2.2.1;have HS4_:=LD hb hHeld.2.2.2.2.1;have HS5_:=LD hb hHeld.2.2.2.2.2.1;have HS6_:=LD hb hHeld.2.2.2.2.2.2.1;have HS7_:=LD hb hHeld.2.2.2.2.2.2.2.1;have HS8_:=LD hb hHeld.2.2.2.2.2.2.2.2.1;have HS9_:=LD hb hHeld.2.2.2.2.2.2.2.2.2.1;have HS10_:=LD hb hHeld.2.2.2.2.2.2.2.2.2.2.1;have HS11_:=LD hb hHeld.2.2.2.2.2.2.2.2.2.2.2;refine ⟨_,rfl,?_⟩;replace HO_3:=SB HO_3 hb;replace HO_4:=RB HO_4 hb;replace HO_12:=RB HO_12 hb;replace BK324:=AM (blk_below (g:=gb324) (o:=.cells #[.int .i64 ((rd_T42 t320 x14_1).f0),.int .i64 ((rd_T42 t320 x14_1).f1),.int .i64 ((rd_T42 t320 x14_1).f2)] 42 (0,0)) (BW BK324) hb);replace HB:=HG GE324 hb;try clear hb
              refine hK.out _ _ ⟨(BC BK324.out 0).trans rfl,(BC BK324.out 1).trans rfl,(BC BK324.out 2).trans rfl,HS3_,HS4_,HS5_,HS6_,HS7_,HS8_,HS9_,HS10_,HS11_⟩ (fun hHeld=>?_);clear hK K;refine norm_ (a':=?_) ?_ ?_;rotate_left
              ·show Act.put _ (some 48) _ = _;simp only [Act.put,List.setIfInBounds_toArray,List.set_cons_zero,List.set_cons_succ,i64_w,i32_w];rfl
              refine PA 6 49 HT_ ?_;refine PA 7 50 HT_ ?_;refine PA 8 51 HT_ ?_;refine PA 9 52 HT_ ?_;refine PA 11 54 HT_ ?_;refine PA 12 55 HT_ ?_;refine PA 13 56 HT_ ?_;refine PB 10 53 HT_ HW_ hHeld ?_;refine PB 14 57 HT_ HW_ hHeld ?_;refine PC 15 58 HT_ (fun K hK=>?_);refine goes_ Try.func38 (by kernel_rfl) rfl #[.agg #[.int .i64 ((rd_T42 t320 x7_2).f0),.int .i64 ((rd_T42 t320 x7_2).f1),.int .i64 ((rd_T42 t320 x7_2).f2)],.agg #[.int .i64 ((rd_T42 t320 x8_3).f0),.int .i64 ((rd_T42 t320 x8_3).f1),.int .i64 ((rd_T42 t320 x8_3).f2)]] (by rfl) rfl rfl TA ?_;with_reducible refine (impl_near.calls kj12 ((rd_T42 t320 x7_2).f0) ((rd_T42 t320 x7_2).f1) ((rd_T42 t320 x7_2).f2) ((rd_T42 t320 x8_3).f0) ((rd_T42 t320 x8_3).f1) ((rd_T42 t320 x8_3).f2) true _ A28.out).mono ?_;rintro e w33 ⟨rfl,hb⟩;have HS3_:=LD hb hHeld.2.2.2.1;have HS4_:=LD hb hHeld.2.2.2.2.1;have HS5_:=LD hb hHeld.2.2.2.2.2.1;have HS6_:=LD hb hHeld.2.2.2.2.2.2.1;have HS7_:=LD hb hHeld.2.2.2.2.2.2.2.1;have HS8_:=LD hb hHeld.2.2.2.2.2.2.2.2.1;have HS9_:=LD hb hHeld.2.2.2.2.2.2.2.2.2.1;have HS10_:=LD hb hHeld.2.2.2.2.2.2.2.2.2.2.1;have HS11_:=LD hb hHeld.2.2.2.2.2.2.2.2.2.2.2;refine ⟨_,rfl,?_⟩;replace HO_3:=SB HO_3 hb;replace HO_4:=RB HO_4 hb;replace HO_12:=RB HO_12 hb;replace BK324:=AM (blk_below (g:=gb324) (o:=.cells #[.int .i64 ((rd_T42 t320 x14_1).f0),.int .i64 ((rd_T42 t320 x14_1).f1),.int .i64 ((rd_T42 t320 x14_1).f2)] 42 (0,0)) (BW BK324) hb);replace HB:=HG GE324 hb;try clear hb
              refine hK.out _ _ ⟨(BC BK324.out 0).trans rfl,(BC BK324.out 1).trans rfl,(BC BK324.out 2).trans rfl,HS3_,HS4_,HS5_,HS6_,HS7_,HS8_,HS9_,HS10_,HS11_⟩ (fun hHeld=>?_);clear hK K;refine norm_ (a':=?_) ?_ ?_;rotate_left
              ·show Act.put _ (some 58) _ = _;simp only [Act.put,List.setIfInBounds_toArray,List.set_cons_zero,List.set_cons_succ,i64_w,i32_w];rfl
              refine PA 16 59 HT_ ?_;refine done_ (done_of HT_.out (by kernel_rfl)) ?_;try go_wp2_with (first|((with_reducible refine gate_dst (N:=64) rfl ?_);refine Kd.R_lit (Kd.int .i64) _ 3 ?hg (N:=64) ?hd (xs:=([x14_1,x7_2,x8_3] : List Int)) (inner:=[.int .i64 x14_1,.int .i64 x7_2,.int .i64 x8_3]) (ok:=fun _=>True) (okp:=fun _=>True) ?hr ?hp (fun _ hk=>hk) trivial (Below.refl _ _) (Nat.le_refl _) (by simp) ?_;(case hd=>rfl);(case hg=>rfl);(case hr=>exact GS);(case hp=>exact (Reps.one (show Kd.M (Kd.int .i64) _ _ _ x14_1 [.int .i64 x14_1] from rfl) (Reps.one (show Kd.M (Kd.int .i64) _ _ _ x7_2 [.int .i64 x7_2] from rfl) (Reps.one (show Kd.M (Kd.int .i64) _ _ _ x8_3 [.int .i64 x8_3] from rfl) (Reps.none _ _)))));intro v333 w34 ho35 hb hg_ hnew_;clear hg_ hnew_;(first|rw [← Ny332.out] at ho35|(simp only [Int.reduceToNat] at ho35;rw [← Ny332.out] at ho35));replace HO_3:=SO HO_3 ho35 hb;replace HO_4:=RB HO_4 hb;replace HO_12:=RB HO_12 hb;have HO334:=AM (Kd.R_lower ho35 (BZ (AGE GE324)));replace BK324:=AM (blk_below (g:=gb324) (o:=.cells #[.int .i64 ((rd_T42 t320 x14_1).f0),.int .i64 ((rd_T42 t320 x14_1).f1),.int .i64 ((rd_T42 t320 x14_1).f2)] 42 (0,0)) (BW BK324) hb);replace HB:=HG GE324 hb;clear hb ho35;obtain ⟨Ao37,co37,eo37⟩:=Kd.R_slice HO334.out;subst eo37)|((with_reducible refine gate_builtin (b:=.append) (xs:=#[.tmp 60,.tmp 65]) rfl ?_);at_builtin;refine Kd.S_append (Kd.slice 3 (Kd.int .i64)) (w0:=w) w.heap.size rfl (.tmp 60) (.tmp 65) 22 24 (.slice none 0 0) 24 rfl Try.underlying22 info24 rfl (by decide) (by omega) u3 x3_3 y332 [.slice Ao37 y332.length co37] (fun _=>True) (fun k_=>some k_ = (.slice Ao37 y332.length co37 : Value).ownBlock) rfl rfl ?aP (fun k_ hk_=>((Kd.R_mono (ok':=fun k_=>((fun _=>True)) k_∧some k_≠(u3 : Value).ownBlock) (Kd.R_apart' (HO334.out) (Kd.S_typed HO_3.out) (by decide)) (fun k_ hk=>⟨trivial,hk.2⟩))).1 k_ hk_.symm) ?aF ?aO ?aB ?aS ?aL ?_;(case aP=>exact Kd.M_row (Kd.R_mono (Kd.R_tight rfl (Kd.R_mono (ok':=fun k_=>((fun _=>True)) k_∧some k_≠(u3 : Value).ownBlock) (Kd.R_apart' (HO334.out) (Kd.S_typed HO_3.out) (by decide)) (fun k_ hk=>⟨trivial,hk.2⟩))) (fun _ h_=>h_)));(case aB=>exact (AGE GE324));(case aF=>exact (fun _ _=>trivial));(case aO=>exact (by (with_reducible repeat (first|apply Kd.S_alloc|apply Kd.S_drewN|apply Kd.S_drew));exact Kd.S_mono HO_3.out (fun k_ hk=>⟨trivial,fun e_=>hk.2 e_⟩)));(case aS=>exact (BZ (AGE GE324)));(case aL=>have:=LMc30.out;omega);intro v336 w36 ho hb hg hat;rw [← Ny335.out] at ho;replace HO_4:=AM (Kd.R_over' (KR HO_4) (Kd.S_typed (KS HO_3)) (by decide) hg);replace HO_12:=AM (Kd.R_over' (KR HO_12) (Kd.S_typed (KS HO_3)) (by decide) hg);replace BK324:=AM (blk_grown (g:=gb324) (o:=.cells #[.int .i64 ((rd_T42 t320 x14_1).f0),.int .i64 ((rd_T42 t320 x14_1).f1),.int .i64 ((rd_T42 t320 x14_1).f2)] 42 (0,0)) (BW BK324) hg (Kd.S_ne HO_3.out BK324.out (by decide)));replace HB:=AM hb;have HO337:=AM ho;clear HO_3 HO334;clear ho hb hg hat))
              go_roundg kj12
              case measure=>have:=HK1.out;have:=HK2.out;have:=HK3.out;have:=HJ12.out;omega
              case rel=>exact ⟨(y335),(wrap64 (x8_3 + 1)),RF,H',⟨by have:=HK1.out;have:=HK2.out;have:=HK3.out;have:=HJ12.out;omega⟩,⟨KS HO337⟩,⟨KR HO_4⟩,⟨KR HO_12⟩,⟨by (with_reducible repeat (first|refine blk_drewN ?_ _|refine blk_drew ?_|refine blk_alloc ?_ _));exact BK324.out⟩,⟨AGE GE324⟩⟩
             ·replace c29:=NF c29;subst c29;replace H:=IN H;have H':=AM H;clear H;try go_wp2
              replace HO_3:=AM (Kd.S_drew HO_3.out);replace HO_4:=AM (Kd.R_drew HO_4.out);replace HO_12:=AM (Kd.R_drew HO_12.out);replace BK324:=AM (blk_drew BK324.out);replace HB:=AM (below_drew1 HB.out);have p327 : 0 ≤ (x8_3 : Int):=OD AS;have q327 : x8_3 < (t320.length : Int):=OD AS;obtain ⟨ad327,e327,hx327_0,hx327_1,hx327_2⟩:=at_T42 (Kd.R_reads' HO_4.out).2.2 x8_3 p327 q327;obtain rfl : ad323 = ad327:=(by injection e327);replace p327:=ET p327;replace q327:=ET q327;have p329 : 0 ≤ (x7_2 : Int):=OD AS;have q329 : x7_2 < (t320.length : Int):=OD AS;obtain ⟨ad329,e329,hx329_0,hx329_1,hx329_2⟩:=at_T42 (Kd.R_reads' HO_4.out).2.2 x7_2 p329 q329;obtain rfl : ad323 = ad329:=(by injection e329);replace p329:=ET p329;replace q329:=ET q329;have p330 : 0 ≤ (x8_3 : Int):=OD AS;have q330 : x8_3 < (t320.length : Int):=OD AS;obtain ⟨ad330,e330,hx330_0,hx330_1,hx330_2⟩:=at_T42 (Kd.R_reads' HO_4.out).2.2 x8_3 p330 q330;obtain rfl : ad323 = ad330:=(by injection e330);replace p330:=ET p330;replace q330:=ET q330;refine PSt (n:=17) (S:=fun w'=>w'.cell? ⟨gb324,0,none⟩ = some (.int .i64 ((rd_T42 t320 x14_1).f0))∧w'.cell? ⟨gb324,1,none⟩ = some (.int .i64 ((rd_T42 t320 x14_1).f1))∧w'.cell? ⟨gb324,2,none⟩ = some (.int .i64 ((rd_T42 t320 x14_1).f2))∧w'.cell? (ad323.add ((x8_3).toNat * 3)) = some (.int .i64 ((rd_T42 t320 x8_3).f0))∧w'.cell? ⟨(ad323.add ((x8_3).toNat * 3)).block,(ad323.add ((x8_3).toNat * 3)).off + 1,none⟩ = some (.int .i64 ((rd_T42 t320 x8_3).f1))∧w'.cell? ⟨(ad323.add ((x8_3).toNat * 3)).block,(ad323.add ((x8_3).toNat * 3)).off + 2,none⟩ = some (.int .i64 ((rd_T42 t320 x8_3).f2))∧w'.cell? (ad323.add ((x7_2).toNat * 3)) = some (.int .i64 ((rd_T42 t320 x7_2).f0))∧w'.cell? ⟨(ad323.add ((x7_2).toNat * 3)).block,(ad323.add ((x7_2).toNat * 3)).off + 1,none⟩ = some (.int .i64 ((rd_T42 t320 x7_2).f1))∧w'.cell? ⟨(ad323.add ((x7_2).toNat * 3)).block,(ad323.add ((x7_2).toNat * 3)).off + 2,none⟩ = some (.int .i64 ((rd_T42 t320 x7_2).f2))∧w'.cell? (ad323.add ((x8_3).toNat * 3)) = some (.int .i64 ((rd_T42 t320 x8_3).f0))∧w'.cell? ⟨(ad323.add ((x8_3).toNat * 3)).block,(ad323.add ((x8_3).toNat * 3)).off + 1,none⟩ = some (.int .i64 ((rd_T42 t320 x8_3).f1))∧w'.cell? ⟨(ad323.add ((x8_3).toNat * 3)).block,(ad323.add ((x8_3).toNat * 3)).off + 2,none⟩ = some (.int .i64 ((rd_T42 t320 x8_3).f2))) (ds:=[]) ⟨(BC BK324.out 0).trans rfl,(BC BK324.out 1).trans rfl,(BC BK324.out 2).trans rfl,hx327_0,hx327_1,hx327_2,hx329_0,hx329_1,hx329_2,hx330_0,hx330_1,hx330_2⟩ (fun hHeld=>?_);refine with_tabW impl_cells.tab11 impl_cells.bits11 (fun HT_ HW_=>?_);generalize wc.drew = w38 at HO_3 HO_4 HO_12 BK324 HB hx327_0 hx327_1 hx327_2 hx329_0 hx329_1 hx329_2 hx330_0 hx330_1 hx330_2 hHeld ⊢;refine PA 1 44 HT_ ?_;refine PA 2 45 HT_ ?_;refine PA 3 46 HT_ ?_;refine PB 0 43 HT_ HW_ hHeld ?_;refine PB 4 47 HT_ HW_ hHeld ?_;refine PC 5 48 HT_ (fun K hK=>?_);refine goes_ Try.func38 (by kernel_rfl) rfl #[.agg #[.int .i64 ((rd_T42 t320 x14_1).f0),.int .i64 ((rd_T42 t320 x14_1).f1),.int .i64 ((rd_T42 t320 x14_1).f2)],.agg #[.int .i64 ((rd_T42 t320 x8_3).f0),.int .i64 ((rd_T42 t320 x8_3).f1),.int .i64 ((rd_T42 t320 x8_3).f2)]] (by rfl) rfl rfl TA ?_;with_reducible refine (impl_near.calls kj12 ((rd_T42 t320 x14_1).f0) ((rd_T42 t320 x14_1).f1) ((rd_T42 t320 x14_1).f2) ((rd_T42 t320 x8_3).f0) ((rd_T42 t320 x8_3).f1) ((rd_T42 t320 x8_3).f2) true _ A24.out).mono ?_;rintro e w39 ⟨rfl,hb⟩;have HS3_:=LD hb hHeld.2.2.2.1;have HS4_:=LD hb hHeld.2.2.2.2.1;have HS5_:=LD hb hHeld.2.2.2.2.2.1;have HS6_:=LD hb hHeld.2.2.2.2.2.2.1;have HS7_:=LD hb hHeld.2.2.2.2.2.2.2.1;have HS8_:=LD hb hHeld.2.2.2.2.2.2.2.2.1;have HS9_:=LD hb hHeld.2.2.2.2.2.2.2.2.2.1;have HS10_:=LD hb hHeld.2.2.2.2.2.2.2.2.2.2.1;have HS11_:=LD hb hHeld.2.2.2.2.2.2.2.2.2.2.2;refine ⟨_,rfl,?_⟩;replace HO_3:=SB HO_3 hb;replace HO_4:=RB HO_4 hb;replace HO_12:=RB HO_12 hb;replace BK324:=AM (blk_below (g:=gb324) (o:=.cells #[.int .i64 ((rd_T42 t320 x14_1).f0),.int .i64 ((rd_T42 t320 x14_1).f1),.int .i64 ((rd_T42 t320 x14_1).f2)] 42 (0,0)) (BW BK324) hb);replace HB:=HG GE324 hb;try clear hb
              refine hK.out _ _ ⟨(BC BK324.out 0).trans rfl,(BC BK324.out 1).trans rfl,(BC BK324.out 2).trans rfl,HS3_,HS4_,HS5_,HS6_,HS7_,HS8_,HS9_,HS10_,HS11_⟩ (fun hHeld=>?_);clear hK K;refine norm_ (a':=?_) ?_ ?_;rotate_left
              ·show Act.put _ (some 48) _ = _;simp only [Act.put,List.setIfInBounds_toArray,List.set_cons_zero,List.set_cons_succ,i64_w,i32_w];rfl
              refine PA 6 49 HT_ ?_;refine PA 7 50 HT_ ?_;refine PA 8 51 HT_ ?_;refine PA 9 52 HT_ ?_;refine PA 11 54 HT_ ?_;refine PA 12 55 HT_ ?_;refine PA 13 56 HT_ ?_;refine PB 10 53 HT_ HW_ hHeld ?_;refine PB 14 57 HT_ HW_ hHeld ?_;refine PC 15 58 HT_ (fun K hK=>?_);refine goes_ Try.func38 (by kernel_rfl) rfl #[.agg #[.int .i64 ((rd_T42 t320 x7_2).f0),.int .i64 ((rd_T42 t320 x7_2).f1),.int .i64 ((rd_T42 t320 x7_2).f2)],.agg #[.int .i64 ((rd_T42 t320 x8_3).f0),.int .i64 ((rd_T42 t320 x8_3).f1),.int .i64 ((rd_T42 t320 x8_3).f2)]] (by rfl) rfl rfl TA ?_;with_reducible refine (impl_near.calls kj12 ((rd_T42 t320 x7_2).f0) ((rd_T42 t320 x7_2).f1) ((rd_T42 t320 x7_2).f2) ((rd_T42 t320 x8_3).f0) ((rd_T42 t320 x8_3).f1) ((rd_T42 t320 x8_3).f2) false _ A28.out).mono ?_;rintro e w40 ⟨rfl,hb⟩;have HS3_:=LD hb hHeld.2.2.2.1;have HS4_:=LD hb hHeld.2.2.2.2.1;have HS5_:=LD hb hHeld.2.2.2.2.2.1;have HS6_:=LD hb hHeld.2.2.2.2.2.2.1;have HS7_:=LD hb hHeld.2.2.2.2.2.2.2.1;have HS8_:=LD hb hHeld.2.2.2.2.2.2.2.2.1;have HS9_:=LD hb hHeld.2.2.2.2.2.2.2.2.2.1;have HS10_:=LD hb hHeld.2.2.2.2.2.2.2.2.2.2.1;have HS11_:=LD hb hHeld.2.2.2.2.2.2.2.2.2.2.2;refine ⟨_,rfl,?_⟩;replace HO_3:=SB HO_3 hb;replace HO_4:=RB HO_4 hb;replace HO_12:=RB HO_12 hb;replace BK324:=AM (blk_below (g:=gb324) (o:=.cells #[.int .i64 ((rd_T42 t320 x14_1).f0),.int .i64 ((rd_T42 t320 x14_1).f1),.int .i64 ((rd_T42 t320 x14_1).f2)] 42 (0,0)) (BW BK324) hb);replace HB:=HG GE324 hb;try clear hb
              refine hK.out _ _ ⟨(BC BK324.out 0).trans rfl,(BC BK324.out 1).trans rfl,(BC BK324.out 2).trans rfl,HS3_,HS4_,HS5_,HS6_,HS7_,HS8_,HS9_,HS10_,HS11_⟩ (fun hHeld=>?_);clear hK K;refine norm_ (a':=?_) ?_ ?_;rotate_left
              ·show Act.put _ (some 58) _ = _;simp only [Act.put,List.setIfInBounds_toArray,List.set_cons_zero,List.set_cons_succ,i64_w,i32_w];rfl
              refine PA 16 59 HT_ ?_;refine done_ (done_of HT_.out (by kernel_rfl)) ?_;try go_wp2
              go_roundg kj12
              case measure=>have:=HK1.out;have:=HK2.out;have:=HK3.out;have:=HJ12.out;omega
              case rel=>exact ⟨(x3_3),(wrap64 (x8_3 + 1)),RF,H',⟨by have:=HK1.out;have:=HK2.out;have:=HK3.out;have:=HJ12.out;omega⟩,⟨KS HO_3⟩,⟨KR HO_4⟩,⟨KR HO_12⟩,⟨by (with_reducible repeat (first|refine blk_drewN ?_ _|refine blk_drew ?_|refine blk_alloc ?_ _));exact BK324.out⟩,⟨AGE GE324⟩⟩
            ·replace c25:=NF c25;subst c25;replace H:=IN H;have H':=AM H;clear H;try go_wp2
             replace HO_3:=AM (Kd.S_drew HO_3.out);replace HO_4:=AM (Kd.R_drew HO_4.out);replace HO_12:=AM (Kd.R_drew HO_12.out);replace BK324:=AM (blk_drew BK324.out);replace HB:=AM (below_drew1 HB.out);have p327 : 0 ≤ (x8_3 : Int):=OD AS;have q327 : x8_3 < (t320.length : Int):=OD AS;obtain ⟨ad327,e327,hx327_0,hx327_1,hx327_2⟩:=at_T42 (Kd.R_reads' HO_4.out).2.2 x8_3 p327 q327;obtain rfl : ad323 = ad327:=(by injection e327);replace p327:=ET p327;replace q327:=ET q327;refine PSt (n:=17) (S:=fun w'=>w'.cell? ⟨gb324,0,none⟩ = some (.int .i64 ((rd_T42 t320 x14_1).f0))∧w'.cell? ⟨gb324,1,none⟩ = some (.int .i64 ((rd_T42 t320 x14_1).f1))∧w'.cell? ⟨gb324,2,none⟩ = some (.int .i64 ((rd_T42 t320 x14_1).f2))∧w'.cell? (ad323.add ((x8_3).toNat * 3)) = some (.int .i64 ((rd_T42 t320 x8_3).f0))∧w'.cell? ⟨(ad323.add ((x8_3).toNat * 3)).block,(ad323.add ((x8_3).toNat * 3)).off + 1,none⟩ = some (.int .i64 ((rd_T42 t320 x8_3).f1))∧w'.cell? ⟨(ad323.add ((x8_3).toNat * 3)).block,(ad323.add ((x8_3).toNat * 3)).off + 2,none⟩ = some (.int .i64 ((rd_T42 t320 x8_3).f2))) (ds:=[]) ⟨(BC BK324.out 0).trans rfl,(BC BK324.out 1).trans rfl,(BC BK324.out 2).trans rfl,hx327_0,hx327_1,hx327_2⟩ (fun hHeld=>?_);refine with_tabW impl_cells.tab11 impl_cells.bits11 (fun HT_ HW_=>?_);generalize wc.drew = w41 at HO_3 HO_4 HO_12 BK324 HB hx327_0 hx327_1 hx327_2 hHeld ⊢;refine PA 1 44 HT_ ?_;refine PA 2 45 HT_ ?_;refine PA 3 46 HT_ ?_;refine PB 0 43 HT_ HW_ hHeld ?_;refine PB 4 47 HT_ HW_ hHeld ?_;refine PC 5 48 HT_ (fun K hK=>?_);refine goes_ Try.func38 (by kernel_rfl) rfl #[.agg #[.int .i64 ((rd_T42 t320 x14_1).f0),.int .i64 ((rd_T42 t320 x14_1).f1),.int .i64 ((rd_T42 t320 x14_1).f2)],.agg #[.int .i64 ((rd_T42 t320 x8_3).f0),.int .i64 ((rd_T42 t320 x8_3).f1),.int .i64 ((rd_T42 t320 x8_3).f2)]] (by rfl) rfl rfl TA ?_;with_reducible refine (impl_near.calls kj12 ((rd_T42 t320 x14_1).f0) ((rd_T42 t320 x14_1).f1) ((rd_T42 t320 x14_1).f2) ((rd_T42 t320 x8_3).f0) ((rd_T42 t320 x8_3).f1) ((rd_T42 t320 x8_3).f2) false _ A24.out).mono ?_;rintro e w42 ⟨rfl,hb⟩;have HS3_:=LD hb hHeld.2.2.2.1;have HS4_:=LD hb hHeld.2.2.2.2.1;have HS5_:=LD hb hHeld.2.2.2.2.2;refine ⟨_,rfl,?_⟩;replace HO_3:=SB HO_3 hb;replace HO_4:=RB HO_4 hb;replace HO_12:=RB HO_12 hb;replace BK324:=AM (blk_below (g:=gb324) (o:=.cells #[.int .i64 ((rd_T42 t320 x14_1).f0),.int .i64 ((rd_T42 t320 x14_1).f1),.int .i64 ((rd_T42 t320 x14_1).f2)] 42 (0,0)) (BW BK324) hb);replace HB:=HG GE324 hb;try clear hb
             refine hK.out _ _ ⟨(BC BK324.out 0).trans rfl,(BC BK324.out 1).trans rfl,(BC BK324.out 2).trans rfl,HS3_,HS4_,HS5_⟩ (fun hHeld=>?_);clear hK K;refine norm_ (a':=?_) ?_ ?_;rotate_left
             ·show Act.put _ (some 48) _ = _;simp only [Act.put,List.setIfInBounds_toArray,List.set_cons_zero,List.set_cons_succ,i64_w,i32_w];rfl
             refine PA 6 49 HT_ ?_;refine pure_ (i:=7) (N:=some 50) (v:=undef) (a':=?_) #[true,true,true,true,true,true,true,true,false,false,false,false,false,false,false,false,false] rfl rfl (any_of HT_.out (by kernel_rfl)) (fun _ _ _ h=>h) (Or.inr ⟨by rfl,rfl⟩) ?_ ?_;rotate_left
             ·exact PU
             refine pure_ (i:=8) (N:=some 51) (v:=undef) (a':=?_) #[true,true,true,true,true,true,true,true,true,false,false,false,false,false,false,false,false] rfl rfl (any_of HT_.out (by kernel_rfl)) (fun _ _ _ h=>h) (Or.inr ⟨by rfl,rfl⟩) ?_ ?_;rotate_left
             ·exact PU
             refine pure_ (i:=9) (N:=some 52) (v:=undef) (a':=?_) #[true,true,true,true,true,true,true,true,true,true,false,false,false,false,false,false,false] rfl rfl (any_of HT_.out (by kernel_rfl)) (fun _ _ _ h=>h) (Or.inr ⟨by rfl,rfl⟩) ?_ ?_;rotate_left
             ·exact PU
             refine pure_ (i:=10) (N:=some 53) (v:=undef) (a':=?_) #[true,true,true,true,true,true,true,true,true,true,true,false,false,false,false,false,false] rfl rfl (any_of HT_.out (by kernel_rfl)) (fun _ _ _ h=>h) (Or.inr ⟨by rfl,rfl⟩) ?_ ?_;rotate_left
             ·exact PU
             refine pure_ (i:=11) (N:=some 54) (v:=undef) (a':=?_) #[true,true,true,true,true,true,true,true,true,true,true,true,false,false,false,false,false] rfl rfl (any_of HT_.out (by kernel_rfl)) (fun _ _ _ h=>h) (Or.inr ⟨by rfl,rfl⟩) ?_ ?_;rotate_left
             ·exact PU
             refine pure_ (i:=12) (N:=some 55) (v:=undef) (a':=?_) #[true,true,true,true,true,true,true,true,true,true,true,true,true,false,false,false,false] rfl rfl (any_of HT_.out (by kernel_rfl)) (fun _ _ _ h=>h) (Or.inr ⟨by rfl,rfl⟩) ?_ ?_;rotate_left
             ·exact PU
             refine pure_ (i:=13) (N:=some 56) (v:=undef) (a':=?_) #[true,true,true,true,true,true,true,true,true,true,true,true,true,true,false,false,false] rfl rfl (any_of HT_.out (by kernel_rfl)) (fun _ _ _ h=>h) (Or.inr ⟨by rfl,rfl⟩) ?_ ?_;rotate_left
             ·exact PU
             refine pure_ (i:=14) (N:=some 57) (v:=undef) (a':=?_) #[true,true,true,true,true,true,true,true,true,true,true,true,true,true,true,false,false] rfl rfl (any_of HT_.out (by kernel_rfl)) (fun _ _ _ h=>h) (Or.inr ⟨by rfl,rfl⟩) ?_ ?_;rotate_left
             ·exact PU
             refine pure_ (i:=15) (N:=some 58) (v:=undef) (a':=?_) #[true,true,true,true,true,true,true,true,true,true,true,true,true,true,true,true,false] rfl rfl (any_of HT_.out (by kernel_rfl)) (fun _ _ _ h=>h) (Or.inr ⟨by rfl,rfl⟩) ?_ ?_;rotate_left
             ·exact PU
             refine PA 16 59 HT_ ?_;refine done_ (done_of HT_.out (by kernel_rfl)) ?_;try go_wp2
             go_roundg kj12
             case measure=>have:=HK1.out;have:=HK2.out;have:=HK3.out;have:=HJ12.out;omega
             case rel=>exact ⟨(x3_3),(wrap64 (x8_3 + 1)),RF,H',⟨by have:=HK1.out;have:=HK2.out;have:=HK3.out;have:=HJ12.out;omega⟩,⟨KS HO_3⟩,⟨KR HO_4⟩,⟨KR HO_12⟩,⟨by (with_reducible repeat (first|refine blk_drewN ?_ _|refine blk_drew ?_|refine blk_alloc ?_ _));exact BK324.out⟩,⟨AGE GE324⟩⟩
           ·replace c21:=NF c21;subst c21;replace H:=IN H;have H':=AM H;clear H;go_wp2;go_roundg kj12
            case measure=>have:=HK1.out;have:=HK2.out;have:=HK3.out;have:=HJ12.out;omega
            case rel=>exact ⟨(x3_3),(wrap64 (x7_2 + 1)),RF,H',⟨by have:=HK1.out;have:=HK2.out;have:=HK3.out;have:=HJ12.out;omega⟩,⟨KS HO_3⟩,⟨KR HO_4⟩,⟨KR HO_12⟩,⟨by (with_reducible repeat (first|refine blk_drewN ?_ _|refine blk_drew ?_|refine blk_alloc ?_ _));exact BK324.out⟩,⟨AGE GE324⟩⟩
      ·rw [if_neg c12] at H;have c12b0:=DF c12;clear c12;have H':=AM H;clear H;go_wp2;go_roundg k2
       case measure=>have:=HK1.out;have:=HK2.out;omega
       case rel=>exact ⟨(x3_2),(wrap64 (x14_1 + 1)),RF,H',⟨by have:=HK1.out;have:=HK2.out;omega⟩,⟨KS HO_3⟩,⟨by (with_reducible repeat (first|apply Kd.R_alloc|apply Kd.R_drewN|apply Kd.R_drew));exact Kd.R_mono HO_4.out (fun _ hk=>trivial)⟩,⟨by (with_reducible repeat (first|apply Kd.R_alloc|apply Kd.R_drewN|apply Kd.R_drew));exact Kd.R_mono HO_12.out (fun _ hk=>trivial)⟩,⟨AGE GE324⟩⟩
   ·rw [if_neg c7] at H;have c7b0:=DF c7;clear c7;obtain rfl:=Option.some.inj H;go_wp2;go_ret;exact ⟨_,RE,KS HO_3,BB⟩

end Go.Proofs.Ytcecimigkndakab.PFnExactFairCut
