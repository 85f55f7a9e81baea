-- Written by a program of this session (wip/tools/pp.sh) out of the translation; Lean checks it.
import Derived.Test.YtafjjbkkcedgnaaDoorPFnSignsOfSharesx0
import Derived.Test.YtafjjbkkcedgnaaDoorPFnSignsOfSharesx1
import Derived.Test.YtafjjbkkcedgnaaDoorPFnSignsOfSharesx3
namespace Go.Proofs.YtafjjbkkcedgnaaDoor.PFnSignsOfShares
open Go.RowKit Go.Proofs.YtafjjbkkcedgnaaDoorOwn Go.Proofs.YtafjjbkkcedgnaaDoorW.PrintWords Go.Proofs.YtafjjbkkcedgnaaDoorW.PrintLast Go.Proofs.YtafjjbkkcedgnaaDoorW.PrintMore
attribute [local go_sem] max2_int min2_int max_two min_two max_three min_three max_four min_four   -- for this text's walks alone
set_option linter.unusedVariables false
set_option maxHeartbeats 8000000
set_option maxRecDepth 100000
set_option linter.unusedSimpArgs false

/-! ### spec_DrawCutsOfSigns: function 15 -/
mutual
def spec_DrawCutsOfSigns.l0 : Nat → ByteArray → List Int → Int → List Int → Int → Int → Option (ByteArray × List Int)
 | 0, _, _, _, _, _, _ => none
 | k + 1, x5, x6, x7, x286000, x286001, x286002 => if x7 < (x5.size : Int) then (spec_DrawCutsOfSigns.j1 k x5 x6 x7 (decide (x7 < 20)) x286000 x286001 x286002) else (spec_DrawCutsOfSigns.j1 k x5 x6 x7 false x286000 x286001 x286002)
def spec_DrawCutsOfSigns.j1 : Nat → ByteArray → List Int → Int → Bool → List Int → Int → Int → Option (ByteArray × List Int)
 | 0, _, _, _, _, _, _, _ => none
 | k + 1, x5, x6, x7, x20, x286000, x286001, x286002 => if x20 = true then (if x7 = 0 then (if x6.length < 17592186044416 then (spec_DrawCutsOfSigns.l0 k x5 (x6 ++ [1]) (wrap64 (x7 + 1)) x286000 x286001 x286002) else (none)) else ((spec_l1Cur_pick.f x286000 x286001 x286002 2).bind fun bt292 => (if x6.length < 17592186044416 then (spec_DrawCutsOfSigns.l0 k x5 (x6 ++ [wrap64 (1 - (wrap64 (2 * bt292.1)))]) (wrap64 (x7 + 1)) x286000 bt292.2.1 bt292.2.2) else (none)))) else (if (x6.length : Int) > 0 then ((spec_l1Cur_one.f x286000 x286001 x286002 10).bind fun bt298 => (spec_DrawCutsOfSigns.j2 k x5 x6 bt298.1 x286000 bt298.2.1 bt298.2.2)) else (spec_DrawCutsOfSigns.j2 k x5 x6 false x286000 x286001 x286002))
def spec_DrawCutsOfSigns.j2 : Nat → ByteArray → List Int → Bool → List Int → Int → Int → Option (ByteArray × List Int)
 | 0, _, _, _, _, _, _ => none
 | k + 1, x5, x6, x41, x286000, x286001, x286002 => if x41 = true then ((spec_l1Cur_pick.f x286000 x286001 x286002 (x6.length : Int)).bind fun bt301 => ((spec_l1Cur_among.f x286000 bt301.2.1 bt301.2.2 (([0, (-1), 2, 4611686018427387904] : List Int))).bind fun bt307 => (if 0 ≤ bt301.1 then (if bt301.1 < (x6.length : Int) then (some (x5, (x6.set (bt301.1 : Int).toNat bt307.1))) else (none)) else (none)))) else (some (x5, x6))
end
def spec_DrawCutsOfSigns.f (k : Nat) (l0 : List Int) : Option (ByteArray × List Int) := (spec_l1Cur_beads.f k l0 0 0 12).bind fun bt286 => (spec_DrawCutsOfSigns.l0 k bt286.1 ([] : List Int) 0 l0 bt286.2.1 bt286.2.2)
theorem spec_DrawCutsOfSigns.mono_l : ∀ k, (∀ y0 y1 y2 y3 y4 y5, LeO (spec_DrawCutsOfSigns.l0 k y0 y1 y2 y3 y4 y5) (spec_DrawCutsOfSigns.l0 (k + 1) y0 y1 y2 y3 y4 y5)) ∧ (∀ y0 y1 y2 y3 y4 y5 y6, LeO (spec_DrawCutsOfSigns.j1 k y0 y1 y2 y3 y4 y5 y6) (spec_DrawCutsOfSigns.j1 (k + 1) y0 y1 y2 y3 y4 y5 y6)) ∧ (∀ y0 y1 y2 y3 y4 y5, LeO (spec_DrawCutsOfSigns.j2 k y0 y1 y2 y3 y4 y5) (spec_DrawCutsOfSigns.j2 (k + 1) y0 y1 y2 y3 y4 y5))
 | 0 => ⟨fun _ _ _ _ _ _ r h => by simp [spec_DrawCutsOfSigns.l0] at h, fun _ _ _ _ _ _ _ r h => by simp [spec_DrawCutsOfSigns.j1] at h, fun _ _ _ _ _ _ r h => by simp [spec_DrawCutsOfSigns.j2] at h⟩
 | k + 1 => by
  obtain ⟨ih0, ih1, ih2⟩ := spec_DrawCutsOfSigns.mono_l k
  refine ⟨?_, ?_, ?_⟩
  ·intro y0 y1 y2 y3 y4 y5
   unfold spec_DrawCutsOfSigns.l0
   repeat' first
   | with_reducible first | exact ih0 _ _ _ _ _ _ | exact ih1 _ _ _ _ _ _ _ | exact ih2 _ _ _ _ _ _ | exact spec_l1Cur_beads.mono _ _ _ _ _ | exact LeO.refl _ | exact LeO.none _ | refine LeO.ite ?_ ?_ | refine LeO.bind ?_ (fun _ => ?_)
   | exact LeO.none _ | refine LeO.ite ?_ ?_ | refine LeO.bind ?_ (fun _ => ?_)
  ·intro y0 y1 y2 y3 y4 y5 y6
   unfold spec_DrawCutsOfSigns.j1
   repeat' first
   | with_reducible first | exact ih0 _ _ _ _ _ _ | exact ih1 _ _ _ _ _ _ _ | exact ih2 _ _ _ _ _ _ | exact spec_l1Cur_beads.mono _ _ _ _ _ | exact LeO.refl _ | exact LeO.none _ | refine LeO.ite ?_ ?_ | refine LeO.bind ?_ (fun _ => ?_)
   | exact LeO.none _ | refine LeO.ite ?_ ?_ | refine LeO.bind ?_ (fun _ => ?_)
  ·intro y0 y1 y2 y3 y4 y5
   unfold spec_DrawCutsOfSigns.j2
   repeat' first
   | with_reducible first | exact ih0 _ _ _ _ _ _ | exact ih1 _ _ _ _ _ _ _ | exact ih2 _ _ _ _ _ _ | exact spec_l1Cur_beads.mono _ _ _ _ _ | exact LeO.refl _ | exact LeO.none _ | refine LeO.ite ?_ ?_ | refine LeO.bind ?_ (fun _ => ?_)
   | exact LeO.none _ | refine LeO.ite ?_ ?_ | refine LeO.bind ?_ (fun _ => ?_)
theorem spec_DrawCutsOfSigns.mono : ∀ a0 k, LeO (spec_DrawCutsOfSigns.f k a0) (spec_DrawCutsOfSigns.f (k + 1) a0) := by
 intro a0 k
 obtain ⟨ih0, ih1, ih2⟩ := spec_DrawCutsOfSigns.mono_l k
 unfold spec_DrawCutsOfSigns.f
 repeat' first
   | with_reducible first | exact ih0 _ _ _ _ _ _ | exact ih1 _ _ _ _ _ _ _ | exact ih2 _ _ _ _ _ _ | exact spec_l1Cur_beads.mono _ _ _ _ _ | exact LeO.refl _ | exact LeO.none _ | refine LeO.ite ?_ ?_ | refine LeO.bind ?_ (fun _ => ?_)
   | exact LeO.none _ | refine LeO.ite ?_ ?_ | refine LeO.bind ?_ (fun _ => ?_)
theorem spec_DrawCutsOfSigns.calls (k : Nat) (A0 : Option Addr) (c0 : Nat) (l0 : List Int) (r1 : ByteArray) (r2 : List Int) (w : World) (hr0 : Kd.C (Kd.int .u8) w A0 l0.length l0) (hc0 : l0.length ≤ c0) (h : spec_DrawCutsOfSigns.f k l0 = some (r1, r2)) :
  Calls Tryd.prog 15 #[.slice A0 l0.length c0] w fun e w' => ∃ v1_ : Value, e = .returned (.tuple #[.string r1, v1_]) ∧ Kd.R (Kd.int .i64) 3 w' w.heap.size (fun _ => True) v1_ r2 ∧ Below w.heap.size w w' := by
 have hu51 := Tryd.underlying51
 have HR0 := Aside0.mk hr0
 have HC0 := Aside0.mk hc0
 clear hr0 hc0
 have HB := Aside0.mk (Below.refl w.heap.size w)
 have H : ((spec_l1Cur_beads.f k l0 0 0 12).bind fun bt286 => (spec_DrawCutsOfSigns.l0 k bt286.1 ([] : List Int) 0 l0 bt286.2.1 bt286.2.2)) = some (r1, r2) := h
 clear h
 obtain ⟨⟨t286, t287, t288⟩, A20, H⟩ := Option.bind_eq_some_iff.mp H
 replace H : (spec_DrawCutsOfSigns.l0 k t286 ([] : List Int) 0 l0 t287 t288) = some (r1, r2) := H
 have A2 := Aside0.mk A20
 clear A20
 have H' := Aside0.mk H
 clear H
 go_enter Tryd.func15, Tryd.ntmps15
 go_wp2_with (first | ((with_reducible refine gate_dst (N := 10) rfl ?_); refine box_event ?hg (N := 10) ?hd (cs := #[.slice A0 l0.length c0, .int .i64 0, .int .u64 0]) (t := 51) ?hr ?_; (case hd => rfl); (case hg => rfl); (case hr => exact GS); intro gb285 hg w3 hbox hb; have n0_ := Aside0.mk (below_step BB hb); have n1_ := Aside0.mk ((by rw [hg]; exact (below_size BB) : w.heap.size ≤ gb285)); have n2_ := Aside0.mk ((by rw [hg]; exact (below_size BB) : w.heap.size ≤ gb285)); have n3_ := Aside0.mk ((show IsS51 w w3 gb285 l0 0 0 from ⟨A0, c0, hbox, (by rw [hg]; exact (below_size BB) : w.heap.size ≤ gb285), HR0.out⟩)); clear HB; have HB := n0_; have GW285 := n1_; have GE285 := n2_; have HI285 := n3_; clear n0_ n1_ n2_ n3_; clear hb hbox hg) | ((with_reducible refine gate_callee (f := 44) rfl ?_); refine goesL_ (some 12) rfl rfl Tryd.func44 (by kernel_rfl) rfl #[.pointer (some ⟨gb285, 0, none⟩), .int .i64 12] rfl TA ?_; (with_reducible refine (spec_l1Cur_beads.calls k gb285 l0 0 0 12 t286 t287 t288 w _ ?side1 ?side2 A2.out).mono ?_); (case side1 => repeat (first | (with_reducible first | exact HI285.out | apply IsS51.alloc | apply IsS51.drewN | apply IsS51.drew | apply IsS51.set_1 | apply IsS51.set_2) | exact HI285.out)); (case side2 => repeat (first | (with_reducible first | exact HB.out | apply below_alloc | apply pw_below_drewN | apply below_drew1 | refine below_set ?_ (IsS51.ge HI285.out)) | exact HB.out)); rintro e w4 ⟨rfl, hi, hb, hk⟩; refine ⟨_, rfl, ?_⟩; have n0_ := Aside0.mk (hb); have n1_ := Aside0.mk (hi); clear HB; clear HI285; have HB := n0_; have HI285 := n1_; clear n0_ n1_; (try clear hb); (try clear hb2); (try clear hk); (try clear hi)))
 go_loopg [6, 7] k (fun kq v6 v7 w' => ∃ (x6_1 : List Int) (x7_1 : Int) (x286001_1 : Int) (x286002_1 : Int), v7 = .int .i64 x7_1 ∧ Aside0 (spec_DrawCutsOfSigns.l0 kq t286 x6_1 x7_1 l0 x286001_1 x286002_1 = some (r1, r2)) ∧ Aside0 (kq ≤ k) ∧ Aside0 (Kd.R (Kd.int .i64) 3 w' w.heap.size (fun _ => True) v6 x6_1) ∧ Aside0 (IsS51 w w' gb285 l0 x286001_1 x286002_1) ∧ Aside0 (Below w.heap.size w w'))
 case atStart => exact ⟨(([] : List Int)), (0), (t287), (t288), RF, H', ⟨Nat.le_refl _⟩, ⟨by first | exact Kd.R_nil _ _ _ _ _ | exact Kd.N_nil _ _ _ _ _ | exact Kd.V_nil _ _ _ _ _ | exact Kd.Q_nil _ _ _ _ _ | exact Kd.S_nil _ _ _ _ _⟩, ⟨by repeat (first | (with_reducible first | exact HI285.out | apply IsS51.alloc | apply IsS51.drewN | apply IsS51.drew | apply IsS51.set_1 | apply IsS51.set_2) | exact HI285.out)⟩, ⟨by repeat (first | (with_reducible first | exact HB.out | apply below_alloc | apply pw_below_drewN | apply below_drew1 | refine below_set ?_ (IsS51.ge HI285.out)) | exact HB.out)⟩⟩
 case round =>
  clear H'
  try clear c1
  try clear p2
  try clear c4
  obtain ⟨x6_1, x7_1, x286001_1, x286002_1, rfl, HA, HK1, HO_6, HI285, HB⟩ := hrel
  cases gk with
  | zero => exact absurd HA.out (by simp [spec_DrawCutsOfSigns.l0])
  | succ k1 =>
   have H := HA.out
   clear HA
   simp only [spec_DrawCutsOfSigns.l0] at H
   have HC5 := Aside0.mk H
   clear H
   go_upto_region 5 with (fail)
   go_cut [20] (fun v20 wc => ∃ (kq : Nat) (x20_4 : Bool), v20 = .bool x20_4 ∧ Aside0 (spec_DrawCutsOfSigns.j1 kq t286 x6_1 x7_1 x20_4 l0 x286001_1 x286002_1 = some (r1, r2)) ∧ Aside0 (kq ≤ k1) ∧ Aside0 (Kd.R (Kd.int .i64) 3 wc w.heap.size (fun _ => True) u6 x6_1) ∧ Aside0 (IsS51 w wc gb285 l0 x286001_1 x286002_1) ∧ Aside0 (Below w.heap.size w wc))
   case first =>
    have H := HC5.out
    clear HC5
    by_cases c6 : x7_1 < (t286.size : Int)
    ·rw [if_pos c6] at H
     have c6b0 : decide (x7_1 < (t286.size : Int)) = true := decide_eq_true c6
     clear c6
     (first | rw [c6b0] | (simp only [i64_w, i32_w]; rw [c6b0]) | skip)
     have H' := Aside0.mk H
     clear H
     go_wp2
     go_meet
     case rel => exact ⟨_, (decide (x7_1 < 20)), RF, H', ⟨by have := HK1.out; first | omega | exact Nat.le_refl _⟩, ⟨KR HO_6⟩, ⟨by repeat (first | (with_reducible first | exact HI285.out | apply IsS51.alloc | apply IsS51.drewN | apply IsS51.drew | apply IsS51.set_1 | apply IsS51.set_2) | exact HI285.out)⟩, ⟨by repeat (first | (with_reducible first | exact HB.out | apply below_alloc | apply pw_below_drewN | apply below_drew1 | refine below_set ?_ (IsS51.ge HI285.out)) | exact HB.out)⟩⟩
    ·rw [if_neg c6] at H
     have c6b0 : decide (x7_1 < (t286.size : Int)) = false := decide_eq_false c6
     clear c6
     (first | rw [c6b0] | (simp only [i64_w, i32_w]; rw [c6b0]) | skip)
     have H' := Aside0.mk H
     clear H
     go_wp2
     go_meet
     case rel => exact ⟨_, (false), RF, H', ⟨by have := HK1.out; first | omega | exact Nat.le_refl _⟩, ⟨KR HO_6⟩, ⟨by repeat (first | (with_reducible first | exact HI285.out | apply IsS51.alloc | apply IsS51.drewN | apply IsS51.drew | apply IsS51.set_1 | apply IsS51.set_2) | exact HI285.out)⟩, ⟨by repeat (first | (with_reducible first | exact HB.out | apply below_alloc | apply pw_below_drewN | apply below_drew1 | refine below_set ?_ (IsS51.ge HI285.out)) | exact HB.out)⟩⟩
   case rest =>
    clear HC5
    try clear c1
    try clear p2
    try clear c4
    try clear c6
    try clear c6b0
    try clear p6
    try clear p2
    obtain ⟨kq, x20_4, rfl, HA, HJ4, HO_6, HI285, HB⟩ := hcut
    cases kq with
    | zero => exact absurd HA.out (by simp [spec_DrawCutsOfSigns.j1])
    | succ kj4 =>
     have H := HA.out
     clear HA
     simp only [spec_DrawCutsOfSigns.j1] at H
     by_cases c7 : x20_4 = true
     ·subst c7
      replace H := IP H
      by_cases c8 : x7_1 = 0
      ·rw [if_pos c8] at H
       have c8b0 : (x7_1 == 0) = true := beq_iff_eq.mpr c8
       have c8b1 : (x7_1 != 0) = false := bne_eq_false_iff_eq.mpr c8
       clear c8
       by_cases c9 : x6_1.length < 17592186044416
       ·rw [if_pos c9] at H
        have LMc9 := Aside0.mk c9
        clear c9
        obtain ⟨y289, hy289⟩ : ∃ y_ : List Int, y_ = (x6_1 ++ [1]) := ⟨_, rfl⟩
        replace H : (spec_DrawCutsOfSigns.l0 kj4 t286 y289 (wrap64 (x7_1 + 1)) l0 x286001_1 x286002_1) = some (r1, r2) := HY H hy289
        have Ny289 := Aside0.mk hy289
        clear hy289
        have H' := Aside0.mk H
        clear H
        go_wp2_with (first | ((with_reducible refine gate_builtin (b := .append) (xs := #[.tmp 25, .tmp 26]) rfl ?_); at_builtin; refine Kd.R_append (Kd.int .i64) (w0 := w) w.heap.size rfl (.tmp 25) (.tmp 26) 24 3 (.int .i64 0) 8 rfl Tryd.underlying24 info3 rfl (by decide) (by omega) u6 x6_1 1 [.int .i64 1] (fun _ => True) (fun _ => False) rfl rfl ?aP (fun _ hk => hk.elim) ?aF ?aO ?aB ?aS ?aL ?_; (case aP => exact rfl); (case aB => exact (by repeat (first | (with_reducible first | exact HB.out | apply below_alloc | apply pw_below_drewN | apply below_drew1 | refine below_set ?_ (IsS51.ge HI285.out)) | exact HB.out))); (case aF => exact (fun _ _ => trivial)); (case aO => exact (KR HO_6)); (case aS => exact (below_size (by repeat (first | (with_reducible first | exact HB.out | apply below_alloc | apply pw_below_drewN | apply below_drew1 | refine below_set ?_ (IsS51.ge HI285.out)) | exact HB.out)))); (case aL => have := LMc9.out; omega); intro v290 w10 ho hb hg hat; rw [← Ny289.out] at ho; have n0_ := Aside0.mk (IsS51.grown (by repeat (first | (with_reducible first | exact HI285.out | apply IsS51.alloc | apply IsS51.drewN | apply IsS51.drew | apply IsS51.set_1 | apply IsS51.set_2) | exact HI285.out)) hg (IsS51.own_ne HI285.out HO_6.out (by decide))); have n1_ := Aside0.mk (hb); have n2_ := Aside0.mk (ho); clear HI285; clear HB; clear HO_6; have HI285 := n0_; have HB := n1_; have HO291 := n2_; clear n0_ n1_ n2_; clear ho hb hg hat))
        go_roundg kj4
        case measure => have := HK1.out; have := HJ4.out; omega
        case rel => exact ⟨(y289), (wrap64 (x7_1 + 1)), (x286001_1), (x286002_1), RF, H', ⟨by have := HK1.out; have := HJ4.out; omega⟩, ⟨KR HO291⟩, ⟨by repeat (first | (with_reducible first | exact HI285.out | apply IsS51.alloc | apply IsS51.drewN | apply IsS51.drew | apply IsS51.set_1 | apply IsS51.set_2) | exact HI285.out)⟩, ⟨by repeat (first | (with_reducible first | exact HB.out | apply below_alloc | apply pw_below_drewN | apply below_drew1 | refine below_set ?_ (IsS51.ge HI285.out)) | exact HB.out)⟩⟩
       ·rw [if_neg c9] at H
        cases H
      ·rw [if_neg c8] at H
       have c8b0 : (x7_1 == 0) = false := beq_eq_false_iff_ne.mpr c8
       have c8b1 : (x7_1 != 0) = true := bne_iff_ne.mpr c8
       obtain ⟨⟨t292, t293, t294⟩, A110, H⟩ := Option.bind_eq_some_iff.mp H
       replace H : (if x6_1.length < 17592186044416 then (spec_DrawCutsOfSigns.l0 kj4 t286 (x6_1 ++ [wrap64 (1 - (wrap64 (2 * t292)))]) (wrap64 (x7_1 + 1)) l0 t293 t294) else (none)) = some (r1, r2) := H
       have A11 := Aside0.mk A110
       clear A110
       by_cases c12 : x6_1.length < 17592186044416
       ·rw [if_pos c12] at H
        have LMc12 := Aside0.mk c12
        clear c12
        obtain ⟨y295, hy295⟩ : ∃ y_ : List Int, y_ = (x6_1 ++ [wrap64 (1 - (wrap64 (2 * t292)))]) := ⟨_, rfl⟩
        replace H : (spec_DrawCutsOfSigns.l0 kj4 t286 y295 (wrap64 (x7_1 + 1)) l0 t293 t294) = some (r1, r2) := HY H hy295
        have Ny295 := Aside0.mk hy295
        clear hy295
        have H' := Aside0.mk H
        clear H
        go_wp2_with (first | ((with_reducible refine gate_callee (f := 45) rfl ?_); refine goesL_ (some 30) rfl rfl Tryd.func45 (by kernel_rfl) rfl #[.pointer (some ⟨gb285, 0, none⟩), .int .i64 2] rfl TA ?_; (with_reducible refine (spec_l1Cur_pick.calls gb285 l0 x286001_1 x286002_1 2 t292 t293 t294 w _ ?side1 ?side2 A11.out).mono ?_); (case side1 => repeat (first | (with_reducible first | exact HI285.out | apply IsS51.alloc | apply IsS51.drewN | apply IsS51.drew | apply IsS51.set_1 | apply IsS51.set_2) | exact HI285.out)); (case side2 => repeat (first | (with_reducible first | exact HB.out | apply below_alloc | apply pw_below_drewN | apply below_drew1 | refine below_set ?_ (IsS51.ge HI285.out)) | exact HB.out)); rintro e w13 ⟨rfl, hi, hb, hk⟩; refine ⟨_, rfl, ?_⟩; have n0_ := Aside0.mk (Kd.R_mono (Kd.R_keep (IsS51.apart (show IsS51 w _ gb285 l0 x286001_1 x286002_1 from by repeat (first | (with_reducible first | exact HI285.out | apply IsS51.alloc | apply IsS51.drewN | apply IsS51.drew | apply IsS51.set_1 | apply IsS51.set_2) | exact HI285.out)) (KR HO_6) (by decide)) hk (fun _ h => h.2)) (fun _ h => h.1)); have n1_ := Aside0.mk (hb); have n2_ := Aside0.mk (hi); clear HO_6; clear HB; clear HI285; have HO_6 := n0_; have HB := n1_; have HI285 := n2_; clear n0_ n1_ n2_; (try clear hb); (try clear hb2); (try clear hk); (try clear hi)) | ((with_reducible refine gate_builtin (b := .append) (xs := #[.tmp 28, .tmp 33]) rfl ?_); at_builtin; refine Kd.R_append (Kd.int .i64) (w0 := w) w.heap.size rfl (.tmp 28) (.tmp 33) 24 3 (.int .i64 0) 8 rfl Tryd.underlying24 info3 rfl (by decide) (by omega) u6 x6_1 (wrap64 (1 - (wrap64 (2 * t292)))) [.int .i64 (wrap64 (1 - (wrap64 (2 * t292))))] (fun _ => True) (fun _ => False) rfl rfl ?aP (fun _ hk => hk.elim) ?aF ?aO ?aB ?aS ?aL ?_; (case aP => exact rfl); (case aB => exact (by repeat (first | (with_reducible first | exact HB.out | apply below_alloc | apply pw_below_drewN | apply below_drew1 | refine below_set ?_ (IsS51.ge HI285.out)) | exact HB.out))); (case aF => exact (fun _ _ => trivial)); (case aO => exact (KR HO_6)); (case aS => exact (below_size (by repeat (first | (with_reducible first | exact HB.out | apply below_alloc | apply pw_below_drewN | apply below_drew1 | refine below_set ?_ (IsS51.ge HI285.out)) | exact HB.out)))); (case aL => have := LMc12.out; omega); intro v296 w14 ho hb hg hat; rw [← Ny295.out] at ho; have n0_ := Aside0.mk (IsS51.grown (by repeat (first | (with_reducible first | exact HI285.out | apply IsS51.alloc | apply IsS51.drewN | apply IsS51.drew | apply IsS51.set_1 | apply IsS51.set_2) | exact HI285.out)) hg (IsS51.own_ne HI285.out HO_6.out (by decide))); have n1_ := Aside0.mk (hb); have n2_ := Aside0.mk (ho); clear HI285; clear HB; clear HO_6; have HI285 := n0_; have HB := n1_; have HO297 := n2_; clear n0_ n1_ n2_; clear ho hb hg hat))
        go_roundg kj4
        case measure => have := HK1.out; have := HJ4.out; omega
        case rel => exact ⟨(y295), (wrap64 (x7_1 + 1)), (t293), (t294), RF, H', ⟨by have := HK1.out; have := HJ4.out; omega⟩, ⟨KR HO297⟩, ⟨by repeat (first | (with_reducible first | exact HI285.out | apply IsS51.alloc | apply IsS51.drewN | apply IsS51.drew | apply IsS51.set_1 | apply IsS51.set_2) | exact HI285.out)⟩, ⟨by repeat (first | (with_reducible first | exact HB.out | apply below_alloc | apply pw_below_drewN | apply below_drew1 | refine below_set ?_ (IsS51.ge HI285.out)) | exact HB.out)⟩⟩
       ·rw [if_neg c12] at H
        cases H
     ·replace c7 := Bool.eq_false_iff.mpr c7
      subst c7
      replace H := IN H
      have HC15 := Aside0.mk H
      clear H
      go_upto_region 10 with (fail)
      go_cut [41] (fun v41 wc => ∃ (kq : Nat) (x41_14 : Bool) (x286001_14 : Int) (x286002_14 : Int), v41 = .bool x41_14 ∧ Aside0 (spec_DrawCutsOfSigns.j2 kq t286 x6_1 x41_14 l0 x286001_14 x286002_14 = some (r1, r2)) ∧ Aside0 (kq ≤ kj4) ∧ Aside0 (Kd.R (Kd.int .i64) 3 wc w.heap.size (fun _ => True) u6 x6_1) ∧ Aside0 (IsS51 w wc gb285 l0 x286001_14 x286002_14) ∧ Aside0 (Below w.heap.size w wc))
      case first =>
       have H := HC15.out
       clear HC15
       by_cases c16 : (x6_1.length : Int) > 0
       ·rw [if_pos c16] at H
        have c16b0 : decide (0 < (x6_1.length : Int)) = true := decide_eq_true c16
        have c16b1 : decide (0 < x6_1.length) = true := decide_eq_true (by omega)
        clear c16
        (first | rw [c16b0] | (simp only [i64_w, i32_w]; rw [c16b0]) | skip)
        obtain ⟨⟨t298, t299, t300⟩, A170, H⟩ := Option.bind_eq_some_iff.mp H
        replace H : (spec_DrawCutsOfSigns.j2 kj4 t286 x6_1 t298 l0 t299 t300) = some (r1, r2) := H
        have A17 := Aside0.mk A170
        clear A170
        have H' := Aside0.mk H
        clear H
        obtain ⟨Ao18, co18, eo18⟩ := Kd.R_slice HO_6.out
        subst eo18
        go_wp2_with (first | (go_at_call 46; (with_reducible refine (spec_l1Cur_one.calls gb285 l0 x286001_1 x286002_1 10 t298 t299 t300 w _ ?side1 ?side2 A17.out).mono ?_); (case side1 => repeat (first | (with_reducible first | exact HI285.out | apply IsS51.alloc | apply IsS51.drewN | apply IsS51.drew | apply IsS51.set_1 | apply IsS51.set_2) | exact HI285.out)); (case side2 => repeat (first | (with_reducible first | exact HB.out | apply below_alloc | apply pw_below_drewN | apply below_drew1 | refine below_set ?_ (IsS51.ge HI285.out)) | exact HB.out)); rintro e w19 ⟨rfl, hi, hb, hk⟩; have n0_ := Aside0.mk (Kd.R_mono (Kd.R_keep (IsS51.apart (show IsS51 w _ gb285 l0 x286001_1 x286002_1 from by repeat (first | (with_reducible first | exact HI285.out | apply IsS51.alloc | apply IsS51.drewN | apply IsS51.drew | apply IsS51.set_1 | apply IsS51.set_2) | exact HI285.out)) (KR HO_6) (by decide)) hk (fun _ h => h.2)) (fun _ h => h.1)); have n1_ := Aside0.mk (hb); have n2_ := Aside0.mk (hi); clear HO_6; clear HB; clear HI285; have HO_6 := n0_; have HB := n1_; have HI285 := n2_; clear n0_ n1_ n2_; (try clear hb); (try clear hb2); (try clear hk); (try clear hi)))
        go_meet
        case rel => exact ⟨_, (t298), (t299), (t300), RF, H', ⟨by have := HK1.out; have := HJ4.out; first | omega | exact Nat.le_refl _⟩, ⟨KR HO_6⟩, ⟨by repeat (first | (with_reducible first | exact HI285.out | apply IsS51.alloc | apply IsS51.drewN | apply IsS51.drew | apply IsS51.set_1 | apply IsS51.set_2) | exact HI285.out)⟩, ⟨by repeat (first | (with_reducible first | exact HB.out | apply below_alloc | apply pw_below_drewN | apply below_drew1 | refine below_set ?_ (IsS51.ge HI285.out)) | exact HB.out)⟩⟩
       ·rw [if_neg c16] at H
        have c16b0 : decide (0 < (x6_1.length : Int)) = false := decide_eq_false c16
        have c16b1 : decide (0 < x6_1.length) = false := decide_eq_false (by omega)
        clear c16
        (first | rw [c16b0] | (simp only [i64_w, i32_w]; rw [c16b0]) | skip)
        have H' := Aside0.mk H
        clear H
        obtain ⟨Ao20, co20, eo20⟩ := Kd.R_slice HO_6.out
        subst eo20
        go_wp2
        go_meet
        case rel => exact ⟨_, (false), (x286001_1), (x286002_1), RF, H', ⟨by have := HK1.out; have := HJ4.out; first | omega | exact Nat.le_refl _⟩, ⟨KR HO_6⟩, ⟨by repeat (first | (with_reducible first | exact HI285.out | apply IsS51.alloc | apply IsS51.drewN | apply IsS51.drew | apply IsS51.set_1 | apply IsS51.set_2) | exact HI285.out)⟩, ⟨by repeat (first | (with_reducible first | exact HB.out | apply below_alloc | apply pw_below_drewN | apply below_drew1 | refine below_set ?_ (IsS51.ge HI285.out)) | exact HB.out)⟩⟩
      case rest =>
       clear HC15
       try clear c1
       try clear p2
       try clear c4
       try clear c6
       try clear c6b0
       try clear p6
       try clear c7
       try clear c8
       try clear c8b0
       try clear c8b1
       try clear c9
       try clear c12
       try clear c15
       try clear c16
       try clear c16b0
       try clear c16b1
       try clear p2
       try clear p6
       obtain ⟨kq, x41_14, x286001_14, x286002_14, rfl, HA, HJ14, HO_6, HI285, HB⟩ := hcut
       cases kq with
       | zero => exact absurd HA.out (by simp [spec_DrawCutsOfSigns.j2])
       | succ kj14 =>
        have H := HA.out
        clear HA
        simp only [spec_DrawCutsOfSigns.j2] at H
        by_cases c21 : x41_14 = true
        ·subst c21
         replace H := IP H
         obtain ⟨⟨t301, t302, t303⟩, A220, H⟩ := Option.bind_eq_some_iff.mp H
         replace H : ((spec_l1Cur_among.f l0 t302 t303 (([0, (-1), 2, 4611686018427387904] : List Int))).bind fun bt307 => (if 0 ≤ t301 then (if t301 < (x6_1.length : Int) then (some (t286, (x6_1.set (t301 : Int).toNat bt307.1))) else (none)) else (none))) = some (r1, r2) := H
         have A22 := Aside0.mk A220
         clear A220
         obtain ⟨y304, hy304⟩ : ∃ y_ : List Int, y_ = (([0, (-1), 2, 4611686018427387904] : List Int)) := ⟨_, rfl⟩
         replace H : ((spec_l1Cur_among.f l0 t302 t303 y304).bind fun bt307 => (if 0 ≤ t301 then (if t301 < (x6_1.length : Int) then (some (t286, (x6_1.set (t301 : Int).toNat bt307.1))) else (none)) else (none))) = some (r1, r2) := HY H hy304
         have Ny304 := Aside0.mk hy304
         clear hy304
         obtain ⟨⟨t307, t308, t309⟩, A230, H⟩ := Option.bind_eq_some_iff.mp H
         replace H : (if 0 ≤ t301 then (if t301 < (x6_1.length : Int) then (some (t286, (x6_1.set (t301 : Int).toNat t307))) else (none)) else (none)) = some (r1, r2) := H
         have A23 := Aside0.mk A230
         clear A230
         by_cases c24 : 0 ≤ t301
         ·rw [if_pos c24] at H
          have c24b0 : decide (0 ≤ t301) = true := decide_eq_true c24
          clear c24
          by_cases c25 : t301 < (x6_1.length : Int)
          ·rw [if_pos c25] at H
           have c25b0 : decide (t301 < (x6_1.length : Int)) = true := decide_eq_true c25
           clear c25
           obtain ⟨y310, hy310⟩ : ∃ y_ : List Int, y_ = (x6_1.set (t301 : Int).toNat t307) := ⟨_, rfl⟩
           replace H : (some (t286, y310)) = some (r1, r2) := HY H hy310
           have Ny310 := Aside0.mk hy310
           clear hy310
           simp only [Option.some.injEq, Prod.mk.injEq] at H
           obtain ⟨rfl, rfl⟩ := H
           obtain ⟨Ao27, co27, eo27⟩ := Kd.R_slice HO_6.out
           subst eo27
           go_wp2_with (first | ((with_reducible refine gate_callee (f := 45) rfl ?_); refine goesL_ (some 46) rfl rfl Tryd.func45 (by kernel_rfl) rfl #[.pointer (some ⟨gb285, 0, none⟩), .int .i64 (x6_1.length : Int)] rfl TA ?_; (with_reducible refine (spec_l1Cur_pick.calls gb285 l0 x286001_14 x286002_14 (x6_1.length : Int) t301 t302 t303 w _ ?side1 ?side2 A22.out).mono ?_); (case side1 => repeat (first | (with_reducible first | exact HI285.out | apply IsS51.alloc | apply IsS51.drewN | apply IsS51.drew | apply IsS51.set_1 | apply IsS51.set_2) | exact HI285.out)); (case side2 => repeat (first | (with_reducible first | exact HB.out | apply below_alloc | apply pw_below_drewN | apply below_drew1 | refine below_set ?_ (IsS51.ge HI285.out)) | exact HB.out)); rintro e w28 ⟨rfl, hi, hb, hk⟩; refine ⟨_, rfl, ?_⟩; have n0_ := Aside0.mk (Kd.R_mono (Kd.R_keep (IsS51.apart (show IsS51 w _ gb285 l0 x286001_14 x286002_14 from by repeat (first | (with_reducible first | exact HI285.out | apply IsS51.alloc | apply IsS51.drewN | apply IsS51.drew | apply IsS51.set_1 | apply IsS51.set_2) | exact HI285.out)) (KR HO_6) (by decide)) hk (fun _ h => h.2)) (fun _ h => h.1)); have n1_ := Aside0.mk (hb); have n2_ := Aside0.mk (hi); clear HO_6; clear HB; clear HI285; have HO_6 := n0_; have HB := n1_; have HI285 := n2_; clear n0_ n1_ n2_; (try clear hb); (try clear hb2); (try clear hk); (try clear hi)) | ((with_reducible refine gate_dst (N := 48) rfl ?_); refine Kd.R_lit (Kd.int .i64) _ 3 ?hg (N := 48) ?hd (xs := ([0, (-1), 2, 4611686018427387904] : List Int)) (inner := [.int .i64 0, .int .i64 (-1), .int .i64 2, .int .i64 4611686018427387904]) (ok := fun _ => True) (okp := fun _ => True) ?hr ?hp (fun _ hk => hk) trivial (Below.refl _ _) (Nat.le_refl _) (by simp) ?_; (case hd => rfl); (case hg => rfl); (case hr => exact GS); (case hp => exact (Reps.one (show Kd.M (Kd.int .i64) _ _ _ 0 [.int .i64 0] from rfl) (Reps.one (show Kd.M (Kd.int .i64) _ _ _ (-1) [.int .i64 (-1)] from rfl) (Reps.one (show Kd.M (Kd.int .i64) _ _ _ 2 [.int .i64 2] from rfl) (Reps.one (show Kd.M (Kd.int .i64) _ _ _ 4611686018427387904 [.int .i64 4611686018427387904] from rfl) (Reps.none _ _)))))); intro v305 w29 ho30 hb hg_ hnew_; clear hg_ hnew_; (first | rw [← Ny304.out] at ho30 | (simp only [Int.reduceToNat] at ho30; rw [← Ny304.out] at ho30)); have n0_ := Aside0.mk (Kd.R_elder' (KR HO_6) (Kd.R_base ho30) hb); have n1_ := Aside0.mk (Kd.R_lower (Kd.R_new' ho30 (Kd.R_lt (KR HO_6))) (below_size (by repeat (first | (with_reducible first | exact HB.out | apply below_alloc | apply pw_below_drewN | apply below_drew1 | refine below_set ?_ (IsS51.ge HI285.out)) | exact HB.out)))); have n2_ := Aside0.mk (IsS51.below (by repeat (first | (with_reducible first | exact HI285.out | apply IsS51.alloc | apply IsS51.drewN | apply IsS51.drew | apply IsS51.set_1 | apply IsS51.set_2) | exact HI285.out)) hb); have n3_ := Aside0.mk (below_step (by repeat (first | (with_reducible first | exact HB.out | apply below_alloc | apply pw_below_drewN | apply below_drew1 | refine below_set ?_ (IsS51.ge HI285.out)) | exact HB.out)) hb); clear HO_6; clear HI285; clear HB; have HO_6 := n0_; have HO306 := n1_; have HI285 := n2_; have HB := n3_; clear n0_ n1_ n2_ n3_; clear hb ho30; obtain ⟨Ao31, co31, eo31⟩ := Kd.R_slice HO306.out; subst eo31) | ((with_reducible refine gate_callee (f := 47) rfl ?_); refine goesL_ (some 49) rfl rfl Tryd.func47 (by kernel_rfl) rfl #[.pointer (some ⟨gb285, 0, none⟩), .slice Ao31 y304.length co31] rfl TA ?_; (with_reducible refine (spec_l1Cur_among.calls gb285 l0 t302 t303 _ _ y304 t307 t308 t309 w _ ?side1 ?side2 ?side3 ?side4 ?side5 A23.out).mono ?_); (case side1 => repeat (first | (with_reducible first | exact HI285.out | apply IsS51.alloc | apply IsS51.drewN | apply IsS51.drew | apply IsS51.set_1 | apply IsS51.set_2) | exact HI285.out)); (case side2 => repeat (first | (with_reducible first | exact HB.out | apply below_alloc | apply pw_below_drewN | apply below_drew1 | refine below_set ?_ (IsS51.ge HI285.out)) | exact HB.out)); (case side3 => exact CW (Kd.R_reads' HO306.out).2.2); (case side4 => exact (Kd.R_reads' HO306.out).2.1); (case side5 => exact far_slice (IsS51.own_ne HI285.out HO306.out (by decide))); rintro e w32 ⟨rfl, hi, hb, hk⟩; refine ⟨_, rfl, ?_⟩; have n0_ := Aside0.mk (Kd.R_mono (Kd.R_keep (IsS51.apart (show IsS51 w _ gb285 l0 t302 t303 from by repeat (first | (with_reducible first | exact HI285.out | apply IsS51.alloc | apply IsS51.drewN | apply IsS51.drew | apply IsS51.set_1 | apply IsS51.set_2) | exact HI285.out)) (KR HO_6) (by decide)) hk (fun _ h => h.2)) (fun _ h => h.1)); have n1_ := Aside0.mk (Kd.R_mono (Kd.R_keep (IsS51.apart (show IsS51 w _ gb285 l0 t302 t303 from by repeat (first | (with_reducible first | exact HI285.out | apply IsS51.alloc | apply IsS51.drewN | apply IsS51.drew | apply IsS51.set_1 | apply IsS51.set_2) | exact HI285.out)) (KR HO306) (by decide)) hk (fun _ h => h.2)) (fun _ h => h.1)); have n2_ := Aside0.mk (hb); have n3_ := Aside0.mk (hi); clear HO_6; clear HO306; clear HB; clear HI285; have HO_6 := n0_; have HO306 := n1_; have HB := n2_; have HI285 := n3_; clear n0_ n1_ n2_ n3_; (try clear hb); (try clear hb2); (try clear hk); (try clear hi); have p26 : 0 ≤ (t301 : Int) := of_decide_eq_true AS; have q26 : (t301 : Int) < ((x6_1.length : Int) : Int) := of_decide_eq_true AS; obtain ⟨go26, co26, eo26, gb26, gl26, cl26, HG26⟩ := Kd.R_form HO_6.out (by omega); (first | cases eo26 | (injection eo26 with ea_ en_ ec_; (first | subst ea_ | (injection ea_ with ea_; subst ea_)); subst ec_; clear en_)); have GB26 := Aside0.mk gb26; have GG26 := Aside0.mk HG26; clear gb26 gl26 HG26; obtain ⟨hx26_0, hf26_0⟩ := Kd.R_celln 0 HO_6.out (t301 : Int) p26 q26; replace p26 := eq_true p26; replace q26 := eq_true q26; have n_ := Aside0.mk (Kd.R_mono (ok' := (fun k_ => some k_ ≠ (.slice Ao31 y304.length co31 : Value).ownBlock)) HO_6.out (fun k_ hk => hk.2)); clear HO_6; have HO_6 := n_; clear n_; obtain ⟨hy33_, hz33_⟩ := Kd.R_celln 0 HO_6.out (t301 : Int) (of_decide_eq_true AS) (of_decide_eq_true AS); have HP33 := Kd.R_putg HO_6.out (t301 : Int) t307) | ((with_reducible refine gate_store (t := 3) (p := 50) rfl ?_); refine store_event (t := 3) (p := 50) (v := ?vo_w34) (w1 := (w32.setCell ⟨go26, (t301 : Int).toNat, none⟩ (.int .i64 t307))) ?hg ?ho ?hn ?hr ?_; (case ho => rfl); (case hg => rfl); (case hn => rfl); (case hr => exact GS); intro w34 hw; have hg : w32.grownBy w34 (some go26) := (by rw [hw]; exact HP33.2); have hp_ : Kd.R (Kd.int .i64) 3 w34 w.heap.size (fun k_ => some k_ ≠ (.slice Ao31 y304.length co31 : Value).ownBlock) (.slice (some ⟨go26, 0, none⟩) x6_1.length co27) y310 := (by rw [hw, Ny310.out]; exact HP33.1); clear HP33; have n0_ := Aside0.mk (hp_); have n1_ := Aside0.mk (IsS51.grown (by repeat (first | (with_reducible first | exact HI285.out | apply IsS51.alloc | apply IsS51.drewN | apply IsS51.drew | apply IsS51.set_1 | apply IsS51.set_2) | exact HI285.out)) hg (IsS51.own_ne HI285.out HO_6.out (by decide))); have n2_ := Aside0.mk (Kd.R_after (v := (.slice (some ⟨go26, 0, none⟩) x6_1.length co27)) (v1 := (.slice (some ⟨go26, 0, none⟩) x6_1.length co27)) (ok := (fun _ => True)) (KR HO306) hg (.inl rfl)); have n3_ := Aside0.mk ((by rw [hw]; exact below_set (HB.out) GB26.out : Below w.heap.size w w34)); clear HO_6; clear HI285; clear HO306; clear HB; have HO_6 := n0_; have HI285 := n1_; have HO306 := n2_; have HB := n3_; clear n0_ n1_ n2_ n3_; clear hg hw hp_))
           go_ret2
           exact ⟨_, RE, by (with_reducible repeat (first | apply Kd.R_alloc | apply Kd.R_drewN | apply Kd.R_drew)); exact Kd.R_mono HO_6.out (fun _ hk => trivial), by repeat (first | (with_reducible first | exact HB.out | apply below_alloc | apply pw_below_drewN | apply below_drew1 | refine below_set ?_ (IsS51.ge HI285.out)) | exact HB.out)⟩
          ·rw [if_neg c25] at H
           cases H
         ·rw [if_neg c24] at H
          cases H
        ·replace c21 := Bool.eq_false_iff.mpr c21
         subst c21
         replace H := IN H
         simp only [Option.some.injEq, Prod.mk.injEq] at H
         obtain ⟨rfl, rfl⟩ := H
         go_wp2
         go_ret2
         exact ⟨_, RE, KR HO_6, by repeat (first | (with_reducible first | exact HB.out | apply below_alloc | apply pw_below_drewN | apply below_drew1 | refine below_set ?_ (IsS51.ge HI285.out)) | exact HB.out)⟩

/-! ### spec_CutsOfSigns: function 16 -/
mutual
def spec_CutsOfSigns.j0 : Nat → List Int → Bool → Option (List Int × Bool)
 | 0, _, _ => none
 | k + 1, x1, x18 => if x18 = true then (some (([] : List Int), false)) else (spec_CutsOfSigns.l0 k x1 ([] : List Int) x1 (x1.length : Int) 0)
def spec_CutsOfSigns.l0 : Nat → List Int → List Int → List Int → Int → Int → Option (List Int × Bool)
 | 0, _, _, _, _, _ => none
 | k + 1, x1, x6, x19, x20, x21 => if x21 < x20 then (if 0 ≤ x21 then (if x21 < (x19.length : Int) then (if (rd x19 x21) = 1 then (if x21 = 0 then (spec_CutsOfSigns.j2 k x1 x6 x21 (rd x19 x21) x19 x20 x21 ((rd x19 x21) != 1)) else (spec_CutsOfSigns.j2 k x1 x6 x21 (rd x19 x21) x19 x20 x21 false)) else (if (rd x19 x21) = (-1) then (if x21 = 0 then (spec_CutsOfSigns.j2 k x1 x6 x21 (rd x19 x21) x19 x20 x21 ((rd x19 x21) != 1)) else (spec_CutsOfSigns.j2 k x1 x6 x21 (rd x19 x21) x19 x20 x21 false)) else (spec_CutsOfSigns.j2 k x1 x6 x21 (rd x19 x21) x19 x20 x21 true))) else (none)) else (none)) else (some (x6, true))
def spec_CutsOfSigns.j2 : Nat → List Int → List Int → Int → Int → List Int → Int → Int → Bool → Option (List Int × Bool)
 | 0, _, _, _, _, _, _, _, _ => none
 | k + 1, x1, x6, x7, x8, x19, x20, x21, x39 => if x39 = true then (some (([] : List Int), false)) else (if x7 > 0 then (if 0 ≤ (wrap64 (x7 - 1)) then (if (wrap64 (x7 - 1)) < (x1.length : Int) then (if x8 = (rd x1 (wrap64 (x7 - 1))) then (spec_CutsOfSigns.l0 k x1 x6 x19 x20 (wrap64 (x21 + 1))) else (if x6.length < 17592186044416 then (spec_CutsOfSigns.l0 k x1 (x6 ++ [x7]) x19 x20 (wrap64 (x21 + 1))) else (none))) else (none)) else (none)) else (spec_CutsOfSigns.l0 k x1 x6 x19 x20 (wrap64 (x21 + 1))))
end
def spec_CutsOfSigns.f (k : Nat) (a0 : ByteArray) (l1 : List Int) : Option (List Int × Bool) := (spec_nlGood.f k a0).bind fun t311 => (if t311 = true then (spec_CutsOfSigns.j0 k l1 ((l1.length : Int) != (a0.size : Int))) else (spec_CutsOfSigns.j0 k l1 true))
theorem spec_CutsOfSigns.mono_l : ∀ k, (∀ y0 y1, LeO (spec_CutsOfSigns.j0 k y0 y1) (spec_CutsOfSigns.j0 (k + 1) y0 y1)) ∧ (∀ y0 y1 y2 y3 y4, LeO (spec_CutsOfSigns.l0 k y0 y1 y2 y3 y4) (spec_CutsOfSigns.l0 (k + 1) y0 y1 y2 y3 y4)) ∧ (∀ y0 y1 y2 y3 y4 y5 y6 y7, LeO (spec_CutsOfSigns.j2 k y0 y1 y2 y3 y4 y5 y6 y7) (spec_CutsOfSigns.j2 (k + 1) y0 y1 y2 y3 y4 y5 y6 y7))
 | 0 => ⟨fun _ _ r h => by simp [spec_CutsOfSigns.j0] at h, fun _ _ _ _ _ r h => by simp [spec_CutsOfSigns.l0] at h, fun _ _ _ _ _ _ _ _ r h => by simp [spec_CutsOfSigns.j2] at h⟩
 | k + 1 => by
  obtain ⟨ih0, ih1, ih2⟩ := spec_CutsOfSigns.mono_l k
  refine ⟨?_, ?_, ?_⟩
  ·intro y0 y1
   unfold spec_CutsOfSigns.j0
   repeat' first
   | with_reducible first | exact ih0 _ _ | exact ih1 _ _ _ _ _ | exact ih2 _ _ _ _ _ _ _ _ | exact spec_nlGood.mono _ _ | exact LeO.refl _ | exact LeO.none _ | refine LeO.ite ?_ ?_ | refine LeO.bind ?_ (fun _ => ?_)
   | exact LeO.none _ | refine LeO.ite ?_ ?_ | refine LeO.bind ?_ (fun _ => ?_)
  ·intro y0 y1 y2 y3 y4
   unfold spec_CutsOfSigns.l0
   repeat' first
   | with_reducible first | exact ih0 _ _ | exact ih1 _ _ _ _ _ | exact ih2 _ _ _ _ _ _ _ _ | exact spec_nlGood.mono _ _ | exact LeO.refl _ | exact LeO.none _ | refine LeO.ite ?_ ?_ | refine LeO.bind ?_ (fun _ => ?_)
   | exact LeO.none _ | refine LeO.ite ?_ ?_ | refine LeO.bind ?_ (fun _ => ?_)
  ·intro y0 y1 y2 y3 y4 y5 y6 y7
   unfold spec_CutsOfSigns.j2
   repeat' first
   | with_reducible first | exact ih0 _ _ | exact ih1 _ _ _ _ _ | exact ih2 _ _ _ _ _ _ _ _ | exact spec_nlGood.mono _ _ | exact LeO.refl _ | exact LeO.none _ | refine LeO.ite ?_ ?_ | refine LeO.bind ?_ (fun _ => ?_)
   | exact LeO.none _ | refine LeO.ite ?_ ?_ | refine LeO.bind ?_ (fun _ => ?_)
theorem spec_CutsOfSigns.mono : ∀ a0 a1 k, LeO (spec_CutsOfSigns.f k a0 a1) (spec_CutsOfSigns.f (k + 1) a0 a1) := by
 intro a0 a1 k
 obtain ⟨ih0, ih1, ih2⟩ := spec_CutsOfSigns.mono_l k
 unfold spec_CutsOfSigns.f
 repeat' first
   | with_reducible first | exact ih0 _ _ | exact ih1 _ _ _ _ _ | exact ih2 _ _ _ _ _ _ _ _ | exact spec_nlGood.mono _ _ | exact LeO.refl _ | exact LeO.none _ | refine LeO.ite ?_ ?_ | refine LeO.bind ?_ (fun _ => ?_)
   | exact LeO.none _ | refine LeO.ite ?_ ?_ | refine LeO.bind ?_ (fun _ => ?_)
theorem spec_CutsOfSigns.calls (k : Nat) (a0 : ByteArray) (A1 : Option Addr) (c1 : Nat) (l1 : List Int) (r1 : List Int) (r2 : Bool) (w : World) (hr1 : Kd.C (Kd.int .i64) w A1 l1.length l1) (hc1 : l1.length ≤ c1) (h : spec_CutsOfSigns.f k a0 l1 = some (r1, r2)) :
  Calls Tryd.prog 16 #[.string a0, .slice A1 l1.length c1] w fun e w' => ∃ v0_ : Value, e = .returned (.tuple #[v0_, .bool r2]) ∧ Kd.R (Kd.int .i64) 3 w' w.heap.size (fun _ => True) v0_ r1 ∧ Below w.heap.size w w' := by
 have HR1 := Aside0.mk hr1
 have HC1 := Aside0.mk hc1
 clear hr1 hc1
 have HB := Aside0.mk (Below.refl w.heap.size w)
 have H : ((spec_nlGood.f k a0).bind fun t311 => (if t311 = true then (spec_CutsOfSigns.j0 k l1 ((l1.length : Int) != (a0.size : Int))) else (spec_CutsOfSigns.j0 k l1 true))) = some (r1, r2) := h
 clear h
 have HC3 := Aside0.mk H
 clear H
 go_enter Tryd.func16, Tryd.ntmps16
 go_upto_region 1 with (fail)
 go_cut [18] (fun v18 wc => ∃ (kq : Nat) (x18_2 : Bool), v18 = .bool x18_2 ∧ Aside0 (spec_CutsOfSigns.j0 kq l1 x18_2 = some (r1, r2)) ∧ Aside0 (kq ≤ k) ∧ Aside0 (Below w.heap.size w wc))
 case first =>
  have H := HC3.out
  clear HC3
  obtain ⟨t311, A40, H⟩ := Option.bind_eq_some_iff.mp H
  have A4 := Aside0.mk A40
  clear A40
  by_cases c5 : t311 = true
  ·subst c5
   replace H := IP H
   have H' := Aside0.mk H
   clear H
   go_wp2_with (first | ((with_reducible refine gate_callee (f := 48) rfl ?_); refine goesL_ (some 10) rfl rfl Tryd.func48 (by kernel_rfl) rfl #[.string a0] rfl TA ?_; (with_reducible refine (spec_nlGood.calls k a0 true _ A4.out).mono ?_); rintro e w' ⟨rfl, ⟨nd, rfl⟩⟩; refine ⟨_, rfl, ?_⟩))
   go_meet
   case rel => exact ⟨_, (((l1.length : Int) != (a0.size : Int))), RF, H', ⟨by first | omega | exact Nat.le_refl _⟩, ⟨BB⟩⟩
  ·replace c5 := Bool.eq_false_iff.mpr c5
   subst c5
   replace H := IN H
   have H' := Aside0.mk H
   clear H
   go_wp2_with (first | ((with_reducible refine gate_callee (f := 48) rfl ?_); refine goesL_ (some 10) rfl rfl Tryd.func48 (by kernel_rfl) rfl #[.string a0] rfl TA ?_; (with_reducible refine (spec_nlGood.calls k a0 false _ A4.out).mono ?_); rintro e w' ⟨rfl, ⟨nd, rfl⟩⟩; refine ⟨_, rfl, ?_⟩))
   go_meet
   case rel => exact ⟨_, (true), RF, H', ⟨by first | omega | exact Nat.le_refl _⟩, ⟨BB⟩⟩
 case rest =>
  clear HC3
  try clear c1
  try clear p2
  try clear c4
  try clear c5
  obtain ⟨kq, x18_2, rfl, HA, HJ2, HB⟩ := hcut
  cases kq with
  | zero => exact absurd HA.out (by simp [spec_CutsOfSigns.j0])
  | succ kj2 =>
   have H := HA.out
   clear HA
   simp only [spec_CutsOfSigns.j0] at H
   by_cases c6 : x18_2 = true
   ·subst c6
    replace H := IP H
    simp only [Option.some.injEq, Prod.mk.injEq] at H
    obtain ⟨rfl, rfl⟩ := H
    go_wp2
    go_ret2
    exact ⟨_, RE, by first | exact Kd.R_nil _ _ _ _ _ | exact Kd.N_nil _ _ _ _ _ | exact Kd.V_nil _ _ _ _ _ | exact Kd.Q_nil _ _ _ _ _ | exact Kd.S_nil _ _ _ _ _, BB⟩
   ·replace c6 := Bool.eq_false_iff.mpr c6
    subst c6
    replace H := IN H
    have H' := Aside0.mk H
    clear H
    go_wp2
    go_loopg [6, 21] kj2 (fun kq v6 v21 w' => ∃ (x6_2 : List Int) (x21_2 : Int), v21 = .int .i64 x21_2 ∧ Aside0 (spec_CutsOfSigns.l0 kq l1 x6_2 l1 (l1.length : Int) x21_2 = some (r1, r2)) ∧ Aside0 (kq ≤ kj2) ∧ Aside0 (Kd.R (Kd.int .i64) 3 w' w.heap.size (fun _ => True) v6 x6_2) ∧ Aside0 (Below w.heap.size w w'))
    case atStart => exact ⟨(([] : List Int)), (0), RF, H', ⟨Nat.le_refl _⟩, ⟨by first | exact Kd.R_nil _ _ _ _ _ | exact Kd.N_nil _ _ _ _ _ | exact Kd.V_nil _ _ _ _ _ | exact Kd.Q_nil _ _ _ _ _ | exact Kd.S_nil _ _ _ _ _⟩, ⟨BB⟩⟩
    case round =>
     clear H'
     try clear c1
     try clear p2
     try clear c4
     try clear c5
     try clear c6
     try clear p6
     try clear p2
     obtain ⟨x6_2, x21_2, rfl, HA, HK2, HO_6, HB⟩ := hrel
     cases gk with
     | zero => exact absurd HA.out (by simp [spec_CutsOfSigns.l0])
     | succ k2 =>
      have H := HA.out
      clear HA
      simp only [spec_CutsOfSigns.l0] at H
      by_cases c7 : x21_2 < (l1.length : Int)
      ·rw [if_pos c7] at H
       have c7b0 : decide (x21_2 < (l1.length : Int)) = true := decide_eq_true c7
       clear c7
       by_cases c8 : 0 ≤ x21_2
       ·rw [if_pos c8] at H
        have c8b0 : decide (0 ≤ x21_2) = true := decide_eq_true c8
        clear c8
        by_cases c9 : x21_2 < (l1.length : Int)
        ·rw [if_pos c9] at H
         have c9b0 : decide (x21_2 < (l1.length : Int)) = true := decide_eq_true c9
         clear c9
         have HC10 := Aside0.mk H
         clear H
         have p312 : 0 ≤ (x21_2 : Int) := of_decide_eq_true AS
         have q312 : x21_2 < (l1.length : Int) := of_decide_eq_true AS
         obtain ⟨ad312, e312, hx312_0⟩ := Kd.at_int HR1.out x21_2 p312 q312
         cases e312
         try (replace hx312_0 := (HB.out.cell (World.block_lt_of_cell? w _ hx312_0)).trans hx312_0)
         replace p312 := eq_true p312
         replace q312 := eq_true q312
         go_upto_region 7 with (fail)
         go_cut [39] (fun v39 wc => ∃ (kq : Nat) (x39_9 : Bool), v39 = .bool x39_9 ∧ Aside0 (spec_CutsOfSigns.j2 kq l1 x6_2 x21_2 (rd l1 x21_2) l1 (l1.length : Int) x21_2 x39_9 = some (r1, r2)) ∧ Aside0 (kq ≤ k2) ∧ Aside0 (Kd.R (Kd.int .i64) 3 wc w.heap.size (fun _ => True) u6 x6_2) ∧ Aside0 (Below w.heap.size w wc))
         case first =>
          have H := HC10.out
          clear HC10
          by_cases c11 : (rd l1 x21_2) = 1
          ·rw [if_pos c11] at H
           have c11b0 : ((rd l1 x21_2) == 1) = true := beq_iff_eq.mpr c11
           have c11b1 : ((rd l1 x21_2) != 1) = false := bne_eq_false_iff_eq.mpr c11
           clear c11
           (first | rw [c11b0] | (simp only [i64_w, i32_w]; rw [c11b0]) | skip)
           by_cases c12 : x21_2 = 0
           ·rw [if_pos c12] at H
            have c12b0 : (x21_2 == 0) = true := beq_iff_eq.mpr c12
            have c12b1 : (x21_2 != 0) = false := bne_eq_false_iff_eq.mpr c12
            clear c12
            have H' := Aside0.mk H
            clear H
            go_wp2
            go_meet
            case rel => exact ⟨_, (((rd l1 x21_2) != 1)), RF, H', ⟨by have := HJ2.out; have := HK2.out; first | omega | exact Nat.le_refl _⟩, ⟨KR HO_6⟩, ⟨BB⟩⟩
           ·rw [if_neg c12] at H
            have c12b0 : (x21_2 == 0) = false := beq_eq_false_iff_ne.mpr c12
            have c12b1 : (x21_2 != 0) = true := bne_iff_ne.mpr c12
            have H' := Aside0.mk H
            clear H
            go_wp2
            go_meet
            case rel => exact ⟨_, (false), RF, H', ⟨by have := HJ2.out; have := HK2.out; first | omega | exact Nat.le_refl _⟩, ⟨KR HO_6⟩, ⟨BB⟩⟩
          ·rw [if_neg c11] at H
           have c11b0 : ((rd l1 x21_2) == 1) = false := beq_eq_false_iff_ne.mpr c11
           have c11b1 : ((rd l1 x21_2) != 1) = true := bne_iff_ne.mpr c11
           (first | rw [c11b0] | (simp only [i64_w, i32_w]; rw [c11b0]) | skip)
           by_cases c13 : (rd l1 x21_2) = (-1)
           ·rw [if_pos c13] at H
            have c13b0 : ((rd l1 x21_2) == (-1)) = true := beq_iff_eq.mpr c13
            have c13b1 : ((rd l1 x21_2) != (-1)) = false := bne_eq_false_iff_eq.mpr c13
            clear c13
            by_cases c14 : x21_2 = 0
            ·rw [if_pos c14] at H
             have c14b0 : (x21_2 == 0) = true := beq_iff_eq.mpr c14
             have c14b1 : (x21_2 != 0) = false := bne_eq_false_iff_eq.mpr c14
             clear c14
             have H' := Aside0.mk H
             clear H
             go_wp2
             go_meet
             case rel => exact ⟨_, (((rd l1 x21_2) != 1)), RF, H', ⟨by have := HJ2.out; have := HK2.out; first | omega | exact Nat.le_refl _⟩, ⟨KR HO_6⟩, ⟨BB⟩⟩
            ·rw [if_neg c14] at H
             have c14b0 : (x21_2 == 0) = false := beq_eq_false_iff_ne.mpr c14
             have c14b1 : (x21_2 != 0) = true := bne_iff_ne.mpr c14
             have H' := Aside0.mk H
             clear H
             go_wp2
             go_meet
             case rel => exact ⟨_, (false), RF, H', ⟨by have := HJ2.out; have := HK2.out; first | omega | exact Nat.le_refl _⟩, ⟨KR HO_6⟩, ⟨BB⟩⟩
           ·rw [if_neg c13] at H
            have c13b0 : ((rd l1 x21_2) == (-1)) = false := beq_eq_false_iff_ne.mpr c13
            have c13b1 : ((rd l1 x21_2) != (-1)) = true := bne_iff_ne.mpr c13
            have H' := Aside0.mk H
            clear H
            go_wp2
            go_meet
            case rel => exact ⟨_, (true), RF, H', ⟨by have := HJ2.out; have := HK2.out; first | omega | exact Nat.le_refl _⟩, ⟨KR HO_6⟩, ⟨BB⟩⟩
         case rest =>
          clear HC10
          try clear c1
          try clear p2
          try clear p3
          try clear q3
          try clear hx3
          try clear c4
          try clear c5
          try clear c6
          try clear p6
          try clear c7
          try clear c7b0
          try clear c8
          try clear c8b0
          try clear c9
          try clear c9b0
          try clear c11
          try clear c11b0
          try clear c11b1
          try clear c12
          try clear c12b0
          try clear c12b1
          try clear c13
          try clear c13b0
          try clear c13b1
          try clear c14
          try clear c14b0
          try clear c14b1
          try clear hx312_0
          try clear p2
          try clear p312
          try clear p6
          try clear q312
          obtain ⟨kq, x39_9, rfl, HA, HJ9, HO_6, HB⟩ := hcut
          cases kq with
          | zero => exact absurd HA.out (by simp [spec_CutsOfSigns.j2])
          | succ kj9 =>
           have H := HA.out
           clear HA
           simp only [spec_CutsOfSigns.j2] at H
           by_cases c15 : x39_9 = true
           ·subst c15
            replace H := IP H
            simp only [Option.some.injEq, Prod.mk.injEq] at H
            obtain ⟨rfl, rfl⟩ := H
            go_wp2
            go_ret2
            exact ⟨_, RE, by first | exact Kd.R_nil _ _ _ _ _ | exact Kd.N_nil _ _ _ _ _ | exact Kd.V_nil _ _ _ _ _ | exact Kd.Q_nil _ _ _ _ _ | exact Kd.S_nil _ _ _ _ _, BB⟩
           ·replace c15 := Bool.eq_false_iff.mpr c15
            subst c15
            replace H := IN H
            by_cases c16 : x21_2 > 0
            ·rw [if_pos c16] at H
             have c16b0 : decide (0 < x21_2) = true := decide_eq_true c16
             clear c16
             obtain ⟨ji17, hji17⟩ : ∃ j_ : Int, (wrap64 (x21_2 - 1)) = j_ := ⟨_, rfl⟩
             replace H : (if 0 ≤ (ji17) then (if (ji17) < (l1.length : Int) then (if (rd l1 x21_2) = (rd l1 (ji17)) then (spec_CutsOfSigns.l0 kj9 l1 x6_2 l1 (l1.length : Int) (wrap64 (x21_2 + 1))) else (if x6_2.length < 17592186044416 then (spec_CutsOfSigns.l0 kj9 l1 (x6_2 ++ [x21_2]) l1 (l1.length : Int) (wrap64 (x21_2 + 1))) else (none))) else (none)) else (none)) = some (r1, r2) := by first | (rw [hji17] at H; exact H) | (simp only [hji17] at H ⊢; exact H)
             have hji17w : (IntKind.i64.wrap (x21_2 - 1)) = ji17 := (i64_w _).trans hji17
             by_cases c18 : 0 ≤ (ji17)
             ·rw [if_pos c18] at H
              have c18b0 : decide (0 ≤ (ji17)) = true := decide_eq_true c18
              clear c18
              by_cases c19 : (ji17) < (l1.length : Int)
              ·rw [if_pos c19] at H
               have c19b0 : decide ((ji17) < (l1.length : Int)) = true := decide_eq_true c19
               clear c19
               by_cases c20 : (rd l1 x21_2) = (rd l1 (ji17))
               ·rw [if_pos c20] at H
                have c20b0 : ((rd l1 x21_2) == (rd l1 (ji17))) = true := beq_iff_eq.mpr c20
                have c20b1 : ((rd l1 x21_2) != (rd l1 (ji17))) = false := bne_eq_false_iff_eq.mpr c20
                clear c20
                have H' := Aside0.mk H
                clear H
                have p313 : 0 ≤ ((ji17) : Int) := of_decide_eq_true AS
                have q313 : (ji17) < (l1.length : Int) := of_decide_eq_true AS
                obtain ⟨ad313, e313, hx313_0⟩ := Kd.at_int HR1.out (ji17) p313 q313
                obtain rfl : ad312 = ad313 := (by injection e313)
                try (replace hx313_0 := (HB.out.cell (World.block_lt_of_cell? w _ hx313_0)).trans hx313_0)
                replace p313 := eq_true p313
                replace q313 := eq_true q313
                go_wp2
                go_roundg kj9
                case measure => have := HJ2.out; have := HK2.out; have := HJ9.out; omega
                case rel => exact ⟨(x6_2), (wrap64 (x21_2 + 1)), RF, H', ⟨by have := HJ2.out; have := HK2.out; have := HJ9.out; omega⟩, ⟨KR HO_6⟩, ⟨BB⟩⟩
               ·rw [if_neg c20] at H
                have c20b0 : ((rd l1 x21_2) == (rd l1 (ji17))) = false := beq_eq_false_iff_ne.mpr c20
                have c20b1 : ((rd l1 x21_2) != (rd l1 (ji17))) = true := bne_iff_ne.mpr c20
                by_cases c21 : x6_2.length < 17592186044416
                ·rw [if_pos c21] at H
                 have LMc21 := Aside0.mk c21
                 clear c21
                 obtain ⟨y314, hy314⟩ : ∃ y_ : List Int, y_ = (x6_2 ++ [x21_2]) := ⟨_, rfl⟩
                 replace H : (spec_CutsOfSigns.l0 kj9 l1 y314 l1 (l1.length : Int) (wrap64 (x21_2 + 1))) = some (r1, r2) := HY H hy314
                 have Ny314 := Aside0.mk hy314
                 clear hy314
                 have H' := Aside0.mk H
                 clear H
                 have p313 : 0 ≤ ((ji17) : Int) := of_decide_eq_true AS
                 have q313 : (ji17) < (l1.length : Int) := of_decide_eq_true AS
                 obtain ⟨ad313, e313, hx313_0⟩ := Kd.at_int HR1.out (ji17) p313 q313
                 obtain rfl : ad312 = ad313 := (by injection e313)
                 try (replace hx313_0 := (HB.out.cell (World.block_lt_of_cell? w _ hx313_0)).trans hx313_0)
                 replace p313 := eq_true p313
                 replace q313 := eq_true q313
                 go_wp2_with (first | ((with_reducible refine gate_builtin (b := .append) (xs := #[.tmp 51, .tmp 53]) rfl ?_); (try (refine gate_guard (by rfl) ?_; dsimp only)); at_builtin; refine Kd.R_append (Kd.int .i64) (w0 := w) w.heap.size rfl (.tmp 51) (.tmp 53) 24 3 (.int .i64 0) 8 rfl Tryd.underlying24 info3 rfl (by decide) (by omega) u6 x6_2 x21_2 [.int .i64 x21_2] (fun _ => True) (fun _ => False) rfl rfl ?aP (fun _ hk => hk.elim) ?aF ?aO ?aB ?aS ?aL ?_; (case aP => exact rfl); (case aB => exact BB); (case aF => exact (fun _ _ => trivial)); (case aO => exact (KR HO_6)); (case aS => exact (below_size BB)); (case aL => have := LMc21.out; omega); intro v315 w22 ho hb hg hat; rw [← Ny314.out] at ho; have n0_ := Aside0.mk (hb); have n1_ := Aside0.mk (ho); clear HB; clear HO_6; have HB := n0_; have HO316 := n1_; clear n0_ n1_; clear ho hb hg hat))
                 go_roundg kj9
                 case measure => have := HJ2.out; have := HK2.out; have := HJ9.out; omega
                 case rel => exact ⟨(y314), (wrap64 (x21_2 + 1)), RF, H', ⟨by have := HJ2.out; have := HK2.out; have := HJ9.out; omega⟩, ⟨KR HO316⟩, ⟨BB⟩⟩
                ·rw [if_neg c21] at H
                 cases H
              ·rw [if_neg c19] at H
               cases H
             ·rw [if_neg c18] at H
              cases H
            ·rw [if_neg c16] at H
             have c16b0 : decide (0 < x21_2) = false := decide_eq_false c16
             clear c16
             have H' := Aside0.mk H
             clear H
             go_wp2
             go_roundg kj9
             case measure => have := HJ2.out; have := HK2.out; have := HJ9.out; omega
             case rel => exact ⟨(x6_2), (wrap64 (x21_2 + 1)), RF, H', ⟨by have := HJ2.out; have := HK2.out; have := HJ9.out; omega⟩, ⟨KR HO_6⟩, ⟨BB⟩⟩
        ·rw [if_neg c9] at H
         cases H
       ·rw [if_neg c8] at H
        cases H
      ·rw [if_neg c7] at H
       have c7b0 : decide (x21_2 < (l1.length : Int)) = false := decide_eq_false c7
       clear c7
       simp only [Option.some.injEq, Prod.mk.injEq] at H
       obtain ⟨rfl, rfl⟩ := H
       go_wp2
       go_ret2
       exact ⟨_, RE, KR HO_6, BB⟩

/-! ### spec_nlCounts: function 57 -/
def spec_nlCounts.l0 : Nat → ByteArray → List Int → Int → Option (List Int)
 | 0, _, _, _ => none
 | k + 1, x0, x3, x4 => if x4 < (x0.size : Int) then (if 0 ≤ x4 then (if 0 ≤ (((bt x0 x4) - 97) % 256) then (if (((bt x0 x4) - 97) % 256) < (x3.length : Int) then (spec_nlCounts.l0 k x0 (x3.set ((((bt x0 x4) - 97) % 256) : Int).toNat (wrap64 ((rd x3 (((bt x0 x4) - 97) % 256)) + 1))) (wrap64 (x4 + 1))) else (none)) else (none)) else (none)) else (some x3)
def spec_nlCounts.f (k : Nat) (a0 : ByteArray) : Option (List Int) := if 4 ≤ 35184372088832 then (spec_nlCounts.l0 k a0 (List.replicate 4 0) 0) else (none)
theorem spec_nlCounts.mono_l : ∀ k, (∀ y0 y1 y2, LeO (spec_nlCounts.l0 k y0 y1 y2) (spec_nlCounts.l0 (k + 1) y0 y1 y2))
 | 0 => fun _ _ _ r h => by simp [spec_nlCounts.l0] at h
 | k + 1 => by
  have ih0 := spec_nlCounts.mono_l k
  ·intro y0 y1 y2
   unfold spec_nlCounts.l0
   repeat' first
   | with_reducible first | exact ih0 _ _ _ | exact LeO.refl _ | exact LeO.none _ | refine LeO.ite ?_ ?_ | refine LeO.bind ?_ (fun _ => ?_)
   | exact LeO.none _ | refine LeO.ite ?_ ?_ | refine LeO.bind ?_ (fun _ => ?_)
theorem spec_nlCounts.mono : ∀ a0 k, LeO (spec_nlCounts.f k a0) (spec_nlCounts.f (k + 1) a0) := by
 intro a0 k
 have ih0 := spec_nlCounts.mono_l k
 unfold spec_nlCounts.f
 repeat' first
   | with_reducible first | exact ih0 _ _ _ | exact LeO.refl _ | exact LeO.none _ | refine LeO.ite ?_ ?_ | refine LeO.bind ?_ (fun _ => ?_)
   | exact LeO.none _ | refine LeO.ite ?_ ?_ | refine LeO.bind ?_ (fun _ => ?_)
theorem spec_nlCounts.calls (k : Nat) (a0 : ByteArray) (r : List Int) (w : World) (h : spec_nlCounts.f k a0 = some r) :
  Calls Tryd.prog 57 #[.string a0] w fun e w' => ∃ v0_ : Value, e = .returned (v0_) ∧ Kd.R (Kd.int .i64) 3 w' w.heap.size (fun _ => True) v0_ r ∧ Below w.heap.size w w' := by
 have HB := Aside0.mk (Below.refl w.heap.size w)
 have H : (if 4 ≤ 35184372088832 then (spec_nlCounts.l0 k a0 (List.replicate 4 0) 0) else (none)) = some r := h
 clear h
 by_cases c2 : 4 ≤ 35184372088832
 ·rw [if_pos c2] at H
  have c2b0 := eq_true c2
  have c2b1 : decide (4 ≤ 35184372088832) = true := decide_eq_true c2
  clear c2
  obtain ⟨y317, hy317⟩ : ∃ y_ : List Int, y_ = (List.replicate 4 0) := ⟨_, rfl⟩
  replace H : (spec_nlCounts.l0 k a0 y317 0) = some r := HY H hy317
  have Ny317 := Aside0.mk hy317
  clear hy317
  have H' := Aside0.mk H
  clear H
  go_enter Tryd.func57, Tryd.ntmps57
  go_wp2_with (first | ((with_reducible refine gate_dst (N := 5) rfl ?_); refine Kd.R_make (Kd.int .i64) _ 3 rfl (N := 5) rfl 24 _ _ rfl 4 rfl rfl Tryd.underlying24 (.int .i64 0) 8 info3 rfl (by decide) (by omega) 0 (ok := fun _ => True) (okp := fun _ => True) rfl (fun _ hk => hk) trivial (by omega) (by omega) (Below.refl _ _) (Nat.le_refl _) ?_; intro v318 w3 ho4 hb hg_ hnew_; clear hg_ hnew_; (first | rw [← Ny317.out] at ho4 | (simp only [Int.reduceToNat] at ho4; rw [← Ny317.out] at ho4)); have n0_ := Aside0.mk (Kd.R_lower ho4 (below_size BB)); have n1_ := Aside0.mk (below_step BB hb); clear HB; have HO319 := n0_; have HB := n1_; clear n0_ n1_; clear hb ho4))
  go_loopg [4] k (fun kq v4 w' => ∃ (x3_1 : List Int) (x4_1 : Int), v4 = .int .i64 x4_1 ∧ Aside0 (spec_nlCounts.l0 kq a0 x3_1 x4_1 = some r) ∧ Aside0 (kq ≤ k) ∧ Aside0 (Kd.R (Kd.int .i64) 3 w' w.heap.size (fun _ => True) v318 x3_1) ∧ Aside0 (Below w.heap.size w w'))
  case atStart => exact ⟨(y317), (0), RF, H', ⟨Nat.le_refl _⟩, ⟨KR HO319⟩, ⟨BB⟩⟩
  case round =>
   clear H'
   try clear c2
   try clear c2b0
   try clear c2b1
   try clear p2
   obtain ⟨x3_1, x4_1, rfl, HA, HK1, HO_3, HB⟩ := hrel
   cases gk with
   | zero => exact absurd HA.out (by simp [spec_nlCounts.l0])
   | succ k1 =>
    have H := HA.out
    clear HA
    simp only [spec_nlCounts.l0] at H
    by_cases c5 : x4_1 < (a0.size : Int)
    ·rw [if_pos c5] at H
     have c5b0 : decide (x4_1 < (a0.size : Int)) = true := decide_eq_true c5
     clear c5
     by_cases c6 : 0 ≤ x4_1
     ·rw [if_pos c6] at H
      have c6b0 : decide (0 ≤ x4_1) = true := decide_eq_true c6
      clear c6
      obtain ⟨ji8, hji8⟩ : ∃ j_ : Int, (((bt a0 x4_1) - 97) % 256) = j_ := ⟨_, rfl⟩
      replace H : (if 0 ≤ (ji8) then (if (ji8) < (x3_1.length : Int) then (spec_nlCounts.l0 k1 a0 (x3_1.set ((ji8) : Int).toNat (wrap64 ((rd x3_1 (ji8)) + 1))) (wrap64 (x4_1 + 1))) else (none)) else (none)) = some r := by first | (rw [hji8] at H; exact H) | (simp only [hji8] at H ⊢; exact H)
      by_cases c9 : 0 ≤ (ji8)
      ·rw [if_pos c9] at H
       have c9b0 : decide (0 ≤ (ji8)) = true := decide_eq_true c9
       clear c9
       by_cases c10 : (ji8) < (x3_1.length : Int)
       ·rw [if_pos c10] at H
        have c10b0 : decide ((ji8) < (x3_1.length : Int)) = true := decide_eq_true c10
        clear c10
        obtain ⟨y321, hy321⟩ : ∃ y_ : List Int, y_ = (x3_1.set ((ji8) : Int).toNat (wrap64 ((rd x3_1 (ji8)) + 1))) := ⟨_, rfl⟩
        replace H : (spec_nlCounts.l0 k1 a0 y321 (wrap64 (x4_1 + 1))) = some r := HY H hy321
        have Ny321 := Aside0.mk hy321
        clear hy321
        have H' := Aside0.mk H
        clear H
        have p7 : 0 ≤ (x4_1 : Int) := of_decide_eq_true AS
        have q7 : x4_1 < (a0.size : Int) := of_decide_eq_true AS
        have hx7 := bt_at a0 x4_1
        replace p7 := eq_true p7
        replace q7 := eq_true q7
        obtain ⟨Ao12, co12, eo12⟩ := Kd.R_slice HO_3.out
        subst eo12
        have p320 : 0 ≤ ((ji8) : Int) := of_decide_eq_true AS
        have q320 : (ji8) < (x3_1.length : Int) := of_decide_eq_true AS
        obtain ⟨ad320, e320, hx320_0⟩ := Kd.at_int (Kd.R_reads' HO_3.out).2.2 (ji8) p320 q320
        cases e320
        replace p320 := eq_true p320
        replace q320 := eq_true q320
        have p11 : 0 ≤ ((ji8) : Int) := of_decide_eq_true AS
        have q11 : ((ji8) : Int) < ((x3_1.length : Int) : Int) := of_decide_eq_true AS
        obtain ⟨go11, co11, eo11, gb11, gl11, cl11, HG11⟩ := Kd.R_form HO_3.out (by omega)
        (first | cases eo11 | (injection eo11 with ea_ en_ ec_; (first | subst ea_ | (injection ea_ with ea_; subst ea_)); subst ec_; clear en_))
        have GB11 := Aside0.mk gb11
        have GG11 := Aside0.mk HG11
        clear gb11 gl11 HG11
        (first | simp only [add_plain] at hx320_0 | skip)
        obtain ⟨hx11_0, hf11_0⟩ := Kd.R_celln 0 HO_3.out ((ji8) : Int) p11 q11
        replace p11 := eq_true p11
        replace q11 := eq_true q11
        have HP13 := Kd.R_putg HO_3.out ((ji8) : Int) (wrap64 ((rd x3_1 (ji8)) + 1))
        go_wp2_with (first | ((with_reducible refine gate_store (t := 3) (p := 21) rfl ?_); refine store_event (t := 3) (p := 21) (v := ?vo_w14) (w1 := (wr.setCell ⟨go11, ((ji8) : Int).toNat, none⟩ (.int .i64 (wrap64 ((rd x3_1 (ji8)) + 1))))) ?hg ?ho ?hn ?hr ?_; (case ho => rfl); (case hg => rfl); (case hn => rfl); (case hr => exact GS); intro w14 hw; have hg : wr.grownBy w14 (some go11) := (by rw [hw]; exact HP13.2); have hp_ : Kd.R (Kd.int .i64) 3 w14 w.heap.size (fun _ => True) (.slice (some ⟨go11, 0, none⟩) x3_1.length co12) y321 := (by rw [hw, Ny321.out]; exact HP13.1); clear HP13; have n0_ := Aside0.mk (hp_); have n1_ := Aside0.mk ((by rw [hw]; exact below_set (HB.out) GB11.out : Below w.heap.size w w14)); clear HO_3; clear HB; have HO_3 := n0_; have HB := n1_; clear n0_ n1_; clear hg hw hp_))
        go_roundg k1
        case measure => have := HK1.out; omega
        case rel => exact ⟨(y321), (wrap64 (x4_1 + 1)), RF, H', ⟨by have := HK1.out; omega⟩, ⟨KR HO_3⟩, ⟨BB⟩⟩
       ·rw [if_neg c10] at H
        cases H
      ·rw [if_neg c9] at H
       cases H
     ·rw [if_neg c6] at H
      cases H
    ·rw [if_neg c5] at H
     have c5b0 : decide (x4_1 < (a0.size : Int)) = false := decide_eq_false c5
     clear c5
     obtain rfl := Option.some.inj H
     go_wp2
     go_ret
     exact ⟨_, RE, KR HO_3, BB⟩
 ·rw [if_neg c2] at H
  cases H

end Go.Proofs.YtafjjbkkcedgnaaDoor.PFnSignsOfShares
