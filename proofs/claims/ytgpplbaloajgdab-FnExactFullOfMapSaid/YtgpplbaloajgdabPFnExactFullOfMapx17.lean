-- Written by a program of this session (wip/tools/pp.sh) out of the translation; Lean checks it.
import Derived.Test.YtgpplbaloajgdabPFnExactFullOfMapx0
import Derived.Test.YtgpplbaloajgdabPFnExactFullOfMapx9
import Derived.Test.YtgpplbaloajgdabPFnExactFullOfMapx16
namespace Go.Proofs.Ytgpplbaloajgdab.PFnExactFullOfMap
open Go.RowKit Go.Proofs.YtgpplbaloajgdabOwn Go.Proofs.YtgpplbaloajgdabW.PrintWords Go.Proofs.YtgpplbaloajgdabW.PrintLast Go.Proofs.YtgpplbaloajgdabW.PrintMore
attribute [local go_sem] max2_int min2_int max_two min_two max_three min_three max_four min_four   -- for this text's walks alone
set_option linter.unusedVariables false
set_option maxHeartbeats 8000000
set_option maxRecDepth 100000
set_option linter.unusedSimpArgs false

/-! ### impl_mapLabels: function 43 (given) -/
/-- Is the image's number less than three times the point's? -/
def impl_mapLabels.c1 (y : List Int) (p0 p1 p2 x : Int) : Bool := decide (rd y x < wrap64 (3 * rd [p0, p1, p2] x))
/-- The first place of which it is so, or -1. -/
def impl_mapLabels.find (l : List Int) (p : Int → Bool) : Nat → Int → Int
 | 0, _ => -1
 | d + 1, i => if p (rd l i) = true then i else impl_mapLabels.find l p d (i + 1)
def impl_mapLabels.lab (y : List Int) (p0 p1 p2 : Int) : Int := if impl_mapLabels.find [0, 1, 2] (impl_mapLabels.c1 y p0 p1 p2) 3 0 < 0 then impl_mapLabels.find [p0, p1, p2] (fun x => x != 0) 3 0 else impl_mapLabels.find [0, 1, 2] (impl_mapLabels.c1 y p0 p1 p2) 3 0
def impl_mapLabels.run (l1 : List (List Int)) (ps : List S61) : Nat → Nat → List Int → List Int
 | 0, _, out => out
 | d + 1, i, out => impl_mapLabels.run l1 ps d (i + 1) (out ++ [impl_mapLabels.lab (rd_L1 l1 (i : Int)) (rd_T61 ps (i : Int)).f0 (rd_T61 ps (i : Int)).f1 (rd_T61 ps (i : Int)).f2])
def impl_mapLabels.f (k : Nat) (a0 : Int) (l1 : List (List Int)) : Option (List Int) := (impl_points.f k a0).bind fun ps => if ps.length = l1.length ∧ ps.length ≤ 1000000 ∧ ∀ y ∈ l1, y.length = 3 then some (impl_mapLabels.run l1 ps ps.length 0 []) else none
theorem impl_mapLabels.mono : ∀ a0 a1 k, LeO (impl_mapLabels.f k a0 a1) (impl_mapLabels.f (k + 1) a0 a1) := fun a0 a1 k => LeO.bind (impl_points.mono _ _) (fun _ => LeO.refl _)
theorem impl_mapLabels.three {w : World} {g : Nat} {p0 p1 p2 : Int} (h : w.heap[g]? = some (.cells #[.int .i64 p0, .int .i64 p1, .int .i64 p2] 61 (0, 0))) : Kd.C (Kd.int .i64) w (some ⟨g, 0, none⟩) 3 [p0, p1, p2] := by
 refine ⟨rfl, by simp, fun _ => ⟨_, rfl, fun j p hj => ?_⟩⟩
 refine ⟨[.int .i64 p], rfl, rfl, fun i u hu => ?_⟩
 have hi : i = 0 := by
  have := (List.getElem?_eq_some_iff.1 hu).1
  simpa using this
 subst hi
 have hj3 : j < 3 := (List.getElem?_eq_some_iff.1 hj).1
 have e : (Addr.add ⟨g, 0, none⟩ (j * (Kd.int .i64).sz + 0)) = ⟨g, j, none⟩ := by
  rw [add_at]
  have : (Kd.int .i64).sz = 1 := rfl
  simp [this]
 rw [e, blk_cell h j]
 have hu' : u = .int .i64 p := by simpa using hu.symm
 subst hu'
 have : j = 0 ∨ j = 1 ∨ j = 2 := by omega
 rcases this with rfl | rfl | rfl <;> (simp at hj; subst hj; rfl)
theorem impl_mapLabels.stored {W w2 w3 : World} {g6 g7 : Nat} {i p0 p1 p2 : Int} (h6 : w2.heap[g6]? = some (.cells #[.int .i64 0] 3 (0, 0))) (h7 : w2.heap[g7]? = some (.cells #[.int .i64 0, .int .i64 0, .int .i64 0] 61 (0, 0))) (hb : Below W.heap.size W w2) (e6 : W.heap.size ≤ g6) (e7 : W.heap.size ≤ g7) (hn : g6 ≠ g7)
  (hw : (((w2.setCell ⟨g6, 0, none⟩ (.int .i64 i)).setCell ⟨g7, 0, none⟩ (.int .i64 p0)).setCell ⟨g7, 1, none⟩ (.int .i64 p1)).setCell ⟨g7, 2, none⟩ (.int .i64 p2) = w3) : w3.heap[g6]? = some (.cells #[.int .i64 i] 3 (0, 0)) ∧ w3.heap[g7]? = some (.cells #[.int .i64 p0, .int .i64 p1, .int .i64 p2] 61 (0, 0)) ∧ Below W.heap.size W w3 := by
 subst hw
 refine ⟨?_, ?_, below_set (below_set (below_set (below_set hb e6) e7) e7) e7⟩
 ·exact blk_far (blk_far (blk_far (blk_put (cs := #[.int .i64 0]) h6 0 _ rfl) hn _) hn _) hn _
 ·refine blk_put (cs := #[.int .i64 p0, .int .i64 p1, .int .i64 0]) ?_ 2 _ rfl
  refine blk_put (cs := #[.int .i64 p0, .int .i64 0, .int .i64 0]) ?_ 1 _ rfl
  refine blk_put (cs := #[.int .i64 0, .int .i64 0, .int .i64 0]) ?_ 0 _ rfl
  exact blk_far h7 (Ne.symm hn) _
/-- The closure that looks at an image. -/
theorem impl_mapLabels.c1_calls {W : World} {g3 g6 g7 c : Nat} {A : Option Addr} {l1 : List (List Int)} {i x p0 p1 p2 : Int} (h3 : W.heap[g3]? = some (.cells #[.slice A l1.length c] 28 (0, 0))) (h6 : W.heap[g6]? = some (.cells #[.int .i64 i] 3 (0, 0))) (h7 : W.heap[g7]? = some (.cells #[.int .i64 p0, .int .i64 p1, .int .i64 p2] 61 (0, 0))) (hC : Kd.C (Kd.slice 3 (Kd.int .i64)) W A l1.length l1) (hi : 0 ≤ i ∧ i < (l1.length : Int)) (hy : (rd_L1 l1 i).length = 3) (hx : x = 0 ∨ x = 1 ∨ x = 2) :
  Calls Try.prog 82 #[.int .i64 x, .pointer (some ⟨g3, 0, none⟩), .pointer (some ⟨g6, 0, none⟩), .pointer (some ⟨g7, 0, none⟩)] W fun e W' => e = .returned (.bool (impl_mapLabels.c1 (rd_L1 l1 i) p0 p1 p2 x)) ∧ Drawn0 W W' := by
 have hu := Try.underlying61
 have z3 : W.cell? ⟨g3, 0, none⟩ = some (.slice A l1.length c) := (blk_cell h3 0).trans rfl
 have z6 : W.cell? ⟨g6, 0, none⟩ = some (.int .i64 i) := (blk_cell h6 0).trans rfl
 have z70 : W.cell? ⟨g7, 0, none⟩ = some (.int .i64 p0) := (blk_cell h7 0).trans rfl
 have z71 : W.cell? ⟨g7, 1, none⟩ = some (.int .i64 p1) := (blk_cell h7 1).trans rfl
 have z72 : W.cell? ⟨g7, 2, none⟩ = some (.int .i64 p2) := (blk_cell h7 2).trans rfl
 have p1_ : (0 ≤ i) = True := eq_true hi.1
 have q1_ : (i < (l1.length : Int)) = True := eq_true hi.2
 obtain ⟨ad, A2, c2, e, hr, hl, hc⟩ := at_L1 hC i hi.1 hi.2
 cases e
 have hl3 : (rd_L1 l1 i).length = 3 := hy
 rw [hl3] at hr
 obtain ⟨a2, e2, y0⟩ := Kd.at_int hc 0 (by omega) (by omega)
 cases e2
 obtain ⟨a3, e3, y1⟩ := Kd.at_int hc 1 (by omega) (by omega)
 obtain rfl : a2 = a3 := by injection e3
 obtain ⟨a3, e3', y2⟩ := Kd.at_int hc 2 (by omega) (by omega)
 obtain rfl : a2 = a3 := by injection e3'
 rw [show ((0 : Int)).toNat = 0 from rfl, Addr.add_zero'] at y0
 have y1' : W.cell? ⟨a2.block, a2.off + 1, none⟩ = some (.int .i64 (rd (rd_L1 l1 i) 1)) := y1
 have y2' : W.cell? ⟨a2.block, a2.off + 2, none⟩ = some (.int .i64 (rd (rd_L1 l1 i) 2)) := y2
 have eq0 : impl_mapLabels.c1 (rd_L1 l1 i) p0 p1 p2 0 = decide (rd (rd_L1 l1 i) 0 < wrap64 (3 * p0)) := rfl
 have eq1 : impl_mapLabels.c1 (rd_L1 l1 i) p0 p1 p2 1 = decide (rd (rd_L1 l1 i) 1 < wrap64 (3 * p1)) := rfl
 have eq2 : impl_mapLabels.c1 (rd_L1 l1 i) p0 p1 p2 2 = decide (rd (rd_L1 l1 i) 2 < wrap64 (3 * p2)) := rfl
 clear h3 h6 h7 hC hi hy hl hc e3 e3' y1 y2 hl3
 rcases hx with rfl | rfl | rfl
 ·rw [eq0]
  go_enter Try.func82, Try.ntmps82
  go_wp2
  repeat (go_quiet (fail); try go_wp2)
  go_ret
  exact ⟨by first | rfl | (simp; done) | (simp [wrap64]; done), by repeat (first | exact Drawn0.refl _ | apply Drawn0.step)⟩
 ·rw [eq1]
  go_enter Try.func82, Try.ntmps82
  go_wp2
  repeat (go_quiet (fail); try go_wp2)
  go_ret
  exact ⟨by first | rfl | (simp; done) | (simp [wrap64]; done), by repeat (first | exact Drawn0.refl _ | apply Drawn0.step)⟩
 ·rw [eq2]
  go_enter Try.func82, Try.ntmps82
  go_wp2
  repeat (go_quiet (fail); try go_wp2)
  go_ret
  exact ⟨by first | rfl | (simp; done) | (simp [wrap64]; done), by repeat (first | exact Drawn0.refl _ | apply Drawn0.step)⟩
/-- The closure that looks at a number. -/
theorem impl_mapLabels.c2_calls (x : Int) (W : World) : Calls Try.prog 83 #[.int .i64 x] W fun e W' => e = .returned (.bool (x != 0)) ∧ Drawn0 W W' := by
 go_enter Try.func83, Try.ntmps83
 go_wp2
 go_ret
 exact ⟨by first | rfl | (simp; done), by repeat (first | exact Drawn0.refl _ | apply Drawn0.step)⟩
theorem impl_mapLabels.idx1 {A : Option Addr} {c g3 g6 g7 : Nat} {l : List Int} {p : Int → Bool} {w : World} (hr : Kd.C (Kd.int .i64) w A l.length l) (hl : l.length ≤ 1000000) (hf : ∀ (i : Int) (m : Nat), 0 ≤ i → i < (l.length : Int) → Calls Try.prog 82 #[.int .i64 (rd l i), .pointer (some ⟨g3, 0, none⟩), .pointer (some ⟨g6, 0, none⟩), .pointer (some ⟨g7, 0, none⟩)] (w.drewN m) fun e w' => e = .returned (.bool (p (rd l i))) ∧ Drawn0 (w.drewN m) w') :
  Calls Try.prog 81 #[.slice A l.length c, .func (.func 82) #[] #[.pointer (some ⟨g3, 0, none⟩), .pointer (some ⟨g6, 0, none⟩), .pointer (some ⟨g7, 0, none⟩)]] w fun e w' => e = .returned (.int .i64 (impl_mapLabels.find l p l.length 0)) ∧ Drawn0 w w' := by
 have HR := Aside0.mk hr
 have HL := Aside0.mk hl
 have HF := Aside0.mk hf
 clear hr hl hf
 obtain ⟨r, er⟩ : ∃ r, r = impl_mapLabels.find l p l.length 0 := ⟨_, rfl⟩
 rw [← er]
 have HRR := Aside0.mk er.symm
 clear er
 go_enter Try.func81, Try.ntmps81
 go_wp2
 go_loopg [8] l.length (fun gg v8 w' => ∃ (d : Nat) (i : Int), v8 = .int .i64 i ∧ i + (d : Int) = (l.length : Int) ∧ 0 ≤ i ∧ d ≤ gg ∧ Aside0 (impl_mapLabels.find l p d i = r) ∧ Drawn0 w w')
 case atStart => exact ⟨l.length, 0, rfl, by omega, by omega, Nat.le_refl _, HRR, by repeat (first | exact Drawn0.refl _ | apply Drawn0.step)⟩
 case round =>
  obtain ⟨d, i, rfl, hd, hi, hg, HM, ⟨m, rfl⟩⟩ := hrel
  have hm := HM.out
  clear HM
  cases d with
  | zero =>
   have c1 : decide (i < (l.length : Int)) = false := decide_eq_false (by omega)
   rw [impl_mapLabels.find] at hm
   subst hm
   clear hd hi hg HRR
   go_wp2
   go_ret
   exact ⟨by first | rfl | (simp; done), by repeat (first | exact Drawn0.refl _ | apply Drawn0.step)⟩
  | succ d =>
   have hlt : i < (l.length : Int) := by omega
   have hw : wrap64 (i + 1) = i + 1 := by have := HL.out; unfold wrap64; omega
   obtain ⟨ad, e, hx⟩ := Kd.at_int HR.out i hi hlt
   cases e
   rw [impl_mapLabels.find] at hm
   have HC := Aside0.mk (HF.out i (m + 0) hi hlt)
   have hCall : ∀ m', Calls Try.prog 82 #[.int .i64 (rd l i), .pointer (some ⟨g3, 0, none⟩), .pointer (some ⟨g6, 0, none⟩), .pointer (some ⟨g7, 0, none⟩)] (w.drewN m') fun e w' => e = .returned (.bool (p (rd l i))) ∧ Drawn0 (w.drewN m') w' := fun m' => HF.out i m' hi hlt
   clear HC
   have HC := Aside0.mk hCall
   clear hCall
   have p1 : (0 ≤ i) = True := eq_true hi
   have q1 : (i < (l.length : Int)) = True := eq_true hlt
   have c1 : decide (i < (l.length : Int)) = true := decide_eq_true hlt
   have HD := Aside0.mk (And.intro hd (And.intro hi hg))
   clear hd hi hg hlt
   by_cases hp : p (rd l i) = true
   ·rw [if_pos hp] at hm
    rw [hp] at HC
    subst hm
    clear hp
    go_wp2_with (first | (go_at_call 82; refine (HC.out _).mono ?_; rintro e w' ⟨rfl, ⟨nd, rfl⟩⟩))
    go_ret
    exact ⟨by first | rfl | (simp; done), by repeat (first | exact Drawn0.refl _ | apply Drawn0.step)⟩
   ·rw [if_neg hp] at hm
    rw [Bool.eq_false_iff.mpr hp] at HC
    have HM := Aside0.mk hm
    clear hm hp
    go_wp2_with (first | (go_at_call 82; refine (HC.out _).mono ?_; rintro e w' ⟨rfl, ⟨nd, rfl⟩⟩))
    go_roundg d
    case measure => have := HD.out; omega
    case rel =>
     have hD := HD.out
     exact ⟨d, i + 1, by first | rfl | rw [hw], by omega, by omega, Nat.le_refl _, HM, by repeat (first | exact Drawn0.refl _ | apply Drawn0.step)⟩
theorem impl_mapLabels.idx2 {A : Option Addr} {c : Nat} {l : List Int} {p : Int → Bool} {w : World} (hr : Kd.C (Kd.int .i64) w A l.length l) (hl : l.length ≤ 1000000) (hf : ∀ (i : Int) (m : Nat), 0 ≤ i → i < (l.length : Int) → Calls Try.prog 83 #[.int .i64 (rd l i)] (w.drewN m) fun e w' => e = .returned (.bool (p (rd l i))) ∧ Drawn0 (w.drewN m) w') :
  Calls Try.prog 81 #[.slice A l.length c, .func (.func 83) #[] #[]] w fun e w' => e = .returned (.int .i64 (impl_mapLabels.find l p l.length 0)) ∧ Drawn0 w w' := by
 have HR := Aside0.mk hr
 have HL := Aside0.mk hl
 have HF := Aside0.mk hf
 clear hr hl hf
 obtain ⟨r, er⟩ : ∃ r, r = impl_mapLabels.find l p l.length 0 := ⟨_, rfl⟩
 rw [← er]
 have HRR := Aside0.mk er.symm
 clear er
 go_enter Try.func81, Try.ntmps81
 go_wp2
 go_loopg [8] l.length (fun gg v8 w' => ∃ (d : Nat) (i : Int), v8 = .int .i64 i ∧ i + (d : Int) = (l.length : Int) ∧ 0 ≤ i ∧ d ≤ gg ∧ Aside0 (impl_mapLabels.find l p d i = r) ∧ Drawn0 w w')
 case atStart => exact ⟨l.length, 0, rfl, by omega, by omega, Nat.le_refl _, HRR, by repeat (first | exact Drawn0.refl _ | apply Drawn0.step)⟩
 case round =>
  obtain ⟨d, i, rfl, hd, hi, hg, HM, ⟨m, rfl⟩⟩ := hrel
  have hm := HM.out
  clear HM
  cases d with
  | zero =>
   have c1 : decide (i < (l.length : Int)) = false := decide_eq_false (by omega)
   rw [impl_mapLabels.find] at hm
   subst hm
   clear hd hi hg HRR
   go_wp2
   go_ret
   exact ⟨by first | rfl | (simp; done), by repeat (first | exact Drawn0.refl _ | apply Drawn0.step)⟩
  | succ d =>
   have hlt : i < (l.length : Int) := by omega
   have hw : wrap64 (i + 1) = i + 1 := by have := HL.out; unfold wrap64; omega
   obtain ⟨ad, e, hx⟩ := Kd.at_int HR.out i hi hlt
   cases e
   rw [impl_mapLabels.find] at hm
   have HC := Aside0.mk (HF.out i (m + 0) hi hlt)
   have hCall : ∀ m', Calls Try.prog 83 #[.int .i64 (rd l i)] (w.drewN m') fun e w' => e = .returned (.bool (p (rd l i))) ∧ Drawn0 (w.drewN m') w' := fun m' => HF.out i m' hi hlt
   clear HC
   have HC := Aside0.mk hCall
   clear hCall
   have p1 : (0 ≤ i) = True := eq_true hi
   have q1 : (i < (l.length : Int)) = True := eq_true hlt
   have c1 : decide (i < (l.length : Int)) = true := decide_eq_true hlt
   have HD := Aside0.mk (And.intro hd (And.intro hi hg))
   clear hd hi hg hlt
   by_cases hp : p (rd l i) = true
   ·rw [if_pos hp] at hm
    rw [hp] at HC
    subst hm
    clear hp
    go_wp2_with (first | (go_at_call 83; refine (HC.out _).mono ?_; rintro e w' ⟨rfl, ⟨nd, rfl⟩⟩))
    go_ret
    exact ⟨by first | rfl | (simp; done), by repeat (first | exact Drawn0.refl _ | apply Drawn0.step)⟩
   ·rw [if_neg hp] at hm
    rw [Bool.eq_false_iff.mpr hp] at HC
    have HM := Aside0.mk hm
    clear hm hp
    go_wp2_with (first | (go_at_call 83; refine (HC.out _).mono ?_; rintro e w' ⟨rfl, ⟨nd, rfl⟩⟩))
    go_roundg d
    case measure => have := HD.out; omega
    case rel =>
     have hD := HD.out
     exact ⟨d, i + 1, by first | rfl | rw [hw], by omega, by omega, Nat.le_refl _, HM, by repeat (first | exact Drawn0.refl _ | apply Drawn0.step)⟩
theorem impl_mapLabels.call1 {w w4 : World} {g3 g6 g7 c : Nat} {A : Option Addr} {l1 : List (List Int)} {i : Nat} {p0 p1 p2 : Int} {A18 : Option Addr} {c18 : Nat} (h3 : w4.heap[g3]? = some (.cells #[.slice A l1.length c] 28 (0, 0))) (h6 : w4.heap[g6]? = some (.cells #[.int .i64 (i : Int)] 3 (0, 0))) (h7 : w4.heap[g7]? = some (.cells #[.int .i64 p0, .int .i64 p1, .int .i64 p2] 61 (0, 0))) (hC : Kd.C (Kd.slice 3 (Kd.int .i64)) w4 A l1.length l1) (hi : i < l1.length) (hy : (rd_L1 l1 (i : Int)).length = 3) (hR : Kd.C (Kd.int .i64) w4 A18 3 [0, 1, 2]) :
  Calls Try.prog 81 #[.slice A18 3 c18, .func (.func 82) #[] #[.pointer (some ⟨g3, 0, none⟩), .pointer (some ⟨g6, 0, none⟩), .pointer (some ⟨g7, 0, none⟩)]] w4 fun e w' => e = .returned (.int .i64 (impl_mapLabels.find [0, 1, 2] (impl_mapLabels.c1 (rd_L1 l1 (i : Int)) p0 p1 p2) 3 0)) ∧ Drawn0 w4 w' := by
 refine impl_mapLabels.idx1 (l := [0, 1, 2]) hR (by decide) (fun j m h0 h1 => ?_)
 have hj : j = 0 ∨ j = 1 ∨ j = 2 := by
  have : (([0, 1, 2] : List Int).length : Int) = 3 := rfl
  omega
 have e : rd [0, 1, 2] j = j := by rcases hj with rfl | rfl | rfl <;> rfl
 rw [e]
 exact impl_mapLabels.c1_calls (blk_drewN h3 m) (blk_drewN h6 m) (blk_drewN h7 m) (Kd.C_drewN hC m) ⟨by omega, by omega⟩ hy hj
theorem impl_mapLabels.call2 {w4 : World} {g7 c : Nat} {p0 p1 p2 : Int} (h7 : w4.heap[g7]? = some (.cells #[.int .i64 p0, .int .i64 p1, .int .i64 p2] 61 (0, 0))) :
  Calls Try.prog 81 #[.slice (some ⟨g7, 0, none⟩) 3 c, .func (.func 83) #[] #[]] w4 fun e w' => e = .returned (.int .i64 (impl_mapLabels.find [p0, p1, p2] (fun x => x != 0) 3 0)) ∧ Drawn0 w4 w' :=
 impl_mapLabels.idx2 (l := [p0, p1, p2]) (impl_mapLabels.three h7) (by simp) (fun j m _ _ => impl_mapLabels.c2_calls _ _)
theorem impl_mapLabels.calls (k : Nat) (a0 : Int) (A1 : Option Addr) (c1 : Nat) (l1 : List (List Int)) (r : List Int) (w : World) (hr1 : Kd.C (Kd.slice 3 (Kd.int .i64)) w A1 l1.length l1) (hc1 : l1.length ≤ c1) (h : impl_mapLabels.f k a0 l1 = some r) :
  Calls Try.prog 43 #[.int .i64 a0, .slice A1 l1.length c1] w fun e w' => ∃ v0_ : Value, e = .returned (v0_) ∧ Kd.R (Kd.int .i64) 3 w' w.heap.size (fun _ => True) v0_ r ∧ Below w.heap.size w w' := by
 unfold impl_mapLabels.f at h
 obtain ⟨ps, hps, h⟩ := Option.bind_eq_some_iff.mp h
 by_cases hc : ps.length = l1.length ∧ ps.length ≤ 1000000 ∧ ∀ y ∈ l1, y.length = 3
 ·rw [if_pos hc] at h
  have hu61 := Try.underlying61
  have HRR := Aside0.mk (Option.some.inj h)
  have HR1 := Aside0.mk hr1
  have HC1 := Aside0.mk hc1
  have HP := Aside0.mk hps
  have HC := Aside0.mk hc
  have HB := Aside0.mk (Below.refl w.heap.size w)
  clear h hr1 hc1 hps hc
  obtain ⟨y5, hy5⟩ : ∃ y_ : List Int, y_ = (([] : List Int)) := ⟨_, rfl⟩
  have Ny5 := Aside0.mk hy5
  clear hy5
  go_enter Try.func43, Try.ntmps43
  go_wp2_with (first
   | ((with_reducible refine gate_dst (N := 3) rfl ?_); refine box_event ?hg (N := 3) ?hd (cs := #[.slice A1 l1.length c1]) (t := 28) ?hr ?_; (case hd => rfl); (case hg => rfl); (case hr => exact GS); intro g3 hg w2 hbox hb; have BK3 := Aside0.mk hbox; have n0_ := Aside0.mk (below_step HB.out hb); have GE3 := Aside0.mk (Nat.le_of_eq hg.symm : w.heap.size ≤ g3); clear HB; have HB := n0_; clear n0_ hbox hb hg)
   | ((with_reducible refine gate_dst (N := 9) rfl ?_); refine Kd.R_lit (Kd.int .i64) _ 3 ?hg (N := 9) ?hd (xs := ([] : List Int)) (inner := []) (ok := fun _ => True) (okp := fun _ => True) ?hr ?hp (fun _ hk => hk) trivial (Below.refl _ _) (Nat.le_refl _) (by simp) ?_; (case hd => rfl); (case hg => rfl); (case hr => exact GS); (case hp => exact (Reps.none _ _)); intro v9 w4 ho5 hb hg_ hnew_; clear hg_ hnew_; (first | rw [← Ny5.out] at ho5 | (simp only [Int.reduceToNat] at ho5; rw [← Ny5.out] at ho5)); have n0_ := Aside0.mk (Kd.R_lower ho5 (below_size BB)); have n1_ := Aside0.mk (below_step BB hb); have n2_ := Aside0.mk (blk_below BK3.out hb); clear HB BK3; have HO5 := n0_; have HB := n1_; have BK3 := n2_; clear n0_ n1_ n2_; clear hb ho5)
   | (go_at_call 50; refine (impl_points.calls k a0 ps _ HP.out).mono ?_; rintro e w6 ⟨v11, rfl, ho0, hb⟩; have n0_ := Aside0.mk (Kd.R_below (KR HO5) hb); have n1_ := Aside0.mk (Kd.R_lower ho0 (below_size BB)); have n2_ := Aside0.mk (below_step BB hb); have n3_ := Aside0.mk (blk_below BK3.out hb); clear HO5; clear HB; clear BK3; have HO5 := n0_; have HO11 := n1_; have HB := n2_; have BK3 := n3_; clear n0_ n1_ n2_ n3_; clear hb ho0; obtain ⟨A11, c11, e11⟩ := Kd.R_slice HO11.out; subst e11))
  go_loopg [5, 13] ps.length (fun gg v5 v13 wr => ∃ (d i : Nat) (out : List Int), v13 = .int .i64 (i : Int) ∧ i + d = ps.length ∧ d ≤ gg ∧ Aside0 (out.length = i) ∧ Aside0 (impl_mapLabels.run l1 ps d i out = r) ∧ Aside0 (Kd.R (Kd.int .i64) 3 wr w.heap.size (fun _ => True) v5 out) ∧ Aside0 (Kd.R k61 61 wr w.heap.size (fun _ => True) (.slice A11 ps.length c11) ps) ∧ Aside0 (Below w.heap.size w wr) ∧ Aside0 (wr.heap[g3]? = some (.cells #[.slice A1 l1.length c1] 28 (0, 0))))
  case atStart => exact ⟨ps.length, 0, [], rfl, by omega, Nat.le_refl _, ⟨rfl⟩, HRR, ⟨by have := Ny5.out; subst this; exact KR HO5⟩, ⟨KR HO11⟩, ⟨BB⟩, BK3⟩
  case round =>
   clear HO5 HO11 HB BK3 Ny5
   obtain ⟨d, i, out, rfl, hd, hg, HL, HM, HO5, HO11, HB, BK3⟩ := hrel
   have hm := HM.out
   clear HM
   cases d with
   | zero =>
    have c1_ : decide ((i : Int) < (ps.length : Int)) = false := decide_eq_false (by omega)
    have c2_ : decide (i < ps.length) = false := decide_eq_false (by omega)
    rw [impl_mapLabels.run] at hm
    subst hm
    clear hd hg HRR
    go_wp2
    go_ret
    exact ⟨_, by first | rfl | (simp; done), KR HO5, BB⟩
   | succ d =>
    rw [impl_mapLabels.run] at hm
    have hlt : i < l1.length := by have := HC.out.1; omega
    have hyl : (rd_L1 l1 (i : Int)).length = 3 := by
     have e : rd_L1 l1 (i : Int) = l1[i] := by
      unfold rd_L1
      rw [Int.toNat_natCast, List.getD_eq_getElem?_getD, List.getElem?_eq_getElem hlt]; rfl
     rw [e]; exact HC.out.2.2 _ (List.getElem_mem hlt)
    have hw : wrap64 ((i : Int) + 1) = ((i + 1 : Nat) : Int) := by have := HC.out.2.1; unfold wrap64; omega
    have p1_ : (0 ≤ (i : Int)) = True := eq_true (by omega)
    have q1_ : ((i : Int) < (ps.length : Int)) = True := eq_true (by omega)
    have d1_ : decide ((i : Int) < (ps.length : Int)) = true := decide_eq_true (by omega)
    obtain ⟨ad, e, hx0, hx1, hx2⟩ := at_T61 (Kd.R_reads' HO11.out).2.2 (i : Int) (by omega) (by omega)
    cases e
    rw [Int.toNat_natCast] at hx0 hx1 hx2
    obtain ⟨p0, hp0⟩ : ∃ x, x = (rd_T61 ps (i : Int)).f0 := ⟨_, rfl⟩
    obtain ⟨p1, hp1⟩ : ∃ x, x = (rd_T61 ps (i : Int)).f1 := ⟨_, rfl⟩
    obtain ⟨p2, hp2⟩ : ∃ x, x = (rd_T61 ps (i : Int)).f2 := ⟨_, rfl⟩
    rw [← hp0] at hx0 hm
    rw [← hp1] at hx1 hm
    rw [← hp2] at hx2 hm
    clear hp0 hp1 hp2
    obtain ⟨kk, hkk⟩ : ∃ x, x = impl_mapLabels.lab (rd_L1 l1 (i : Int)) p0 p1 p2 := ⟨_, rfl⟩
    obtain ⟨f1, hf1⟩ : ∃ x, x = impl_mapLabels.find [0, 1, 2] (impl_mapLabels.c1 (rd_L1 l1 (i : Int)) p0 p1 p2) 3 0 := ⟨_, rfl⟩
    rw [← hkk] at hm
    rw [impl_mapLabels.lab, ← hf1] at hkk
    obtain ⟨y6, hy6⟩ : ∃ y_ : List Int, y_ = out ++ [kk] := ⟨_, rfl⟩
    rw [← hy6] at hm
    have Ny6 := Aside0.mk hy6
    have HM := Aside0.mk hm
    have HD := Aside0.mk (And.intro hd hg)
    have HI := Aside0.mk hlt
    have HY_ := Aside0.mk hyl
    have HF1 := Aside0.mk hf1
    clear hy6 hm hd hg hlt hyl hf1
    by_cases hneg : f1 < 0
    ·rw [if_pos hneg] at hkk
     have d2_ : decide (f1 < 0) = true := decide_eq_true hneg
     have HKK := Aside0.mk hkk
     clear hkk hneg
     go_wp2_with (first
      | ((with_reducible refine gate_dst (N := 6) rfl ?_); refine box_event ?hg (N := 6) ?hd (cs := #[.int .i64 0]) (t := 3) ?hr ?_; (case hd => rfl); (case hg => rfl); (case hr => exact GS); intro g6 hg w6 hbox hb; have BX6 := Aside0.mk hbox; have HB6 := Aside0.mk hb; have GE6 := Aside0.mk (Nat.le_of_eq hg.symm : wr.heap.size ≤ g6); clear hbox hb hg)
      | ((with_reducible refine gate_dst (N := 7) rfl ?_); refine box_event ?hg (N := 7) ?hd (cs := #[.int .i64 0, .int .i64 0, .int .i64 0]) (t := 61) ?hr ?_; (case hd => rfl); (case hg => rfl); (case hr => exact GS); intro g7 hg w7 hbox hb; have NE := Aside0.mk (by rw [hg]; exact Nat.ne_of_lt (blk_lt BX6.out) : g6 ≠ g7); have GE7 := Aside0.mk (by rw [hg]; exact HB6.out.size : wr.heap.size ≤ g7); have n0_ := Aside0.mk (below_step HB6.out hb); have n1_ := Aside0.mk (blk_below BX6.out hb); clear HB6 BX6; have HB7 := n0_; have BX6 := n1_; have BX7 := Aside0.mk hbox; clear n0_ n1_ hbox hb hg; have hn1 := NE.out; have hn2 := NE.out.symm; have z6 : w7.cell? ⟨g6, 0, none⟩ = some (.int .i64 0) := (blk_cell BX6.out 0).trans rfl; have z70 : w7.cell? ⟨g7, 0, none⟩ = some (.int .i64 0) := (blk_cell BX7.out 0).trans rfl; have z71 : w7.cell? ⟨g7, 1, none⟩ = some (.int .i64 0) := (blk_cell BX7.out 1).trans rfl; have z72 : w7.cell? ⟨g7, 2, none⟩ = some (.int .i64 0) := (blk_cell BX7.out 2).trans rfl; have y6_ := blk_frozen BX6.out 0; have y70 := blk_frozen BX7.out 0; have y71 := blk_frozen BX7.out 1; have y72 := blk_frozen BX7.out 2)
      | ((with_reducible refine gate_dst (N := 18) rfl ?_); generalize hw3 : (((w7.setCell ⟨g6, 0, none⟩ (.int .i64 (i : Int))).setCell ⟨g7, 0, none⟩ (.int .i64 p0)).setCell ⟨g7, 1, none⟩ (.int .i64 p1)).setCell ⟨g7, 2, none⟩ (.int .i64 p2) = w8; obtain ⟨s6, s7, sB⟩ := impl_mapLabels.stored BX6.out BX7.out HB7.out GE6.out GE7.out NE.out hw3; clear hw3 BX6 BX7 HB7 z6 z70 z71 z72 y6_ y70 y71 y72 hn1 hn2; have S6 := Aside0.mk s6; have S7 := Aside0.mk s7; have SB := Aside0.mk sB; clear s6 s7 sB; refine Kd.R_lit (Kd.int .i64) _ 3 ?hg (N := 18) ?hd (xs := ([0, 1, 2] : List Int)) (inner := [.int .i64 0, .int .i64 1, .int .i64 2]) (ok := fun _ => True) (okp := fun _ => True) ?hr ?hp (fun _ hk => hk) trivial (Below.refl _ _) (Nat.le_refl _) (by simp) ?_; (case hd => rfl); (case hg => rfl); (case hr => exact GS); (case hp => exact (Reps.one (show Kd.M (Kd.int .i64) _ _ _ 0 [.int .i64 0] from rfl) (Reps.one (show Kd.M (Kd.int .i64) _ _ _ 1 [.int .i64 1] from rfl) (Reps.one (show Kd.M (Kd.int .i64) _ _ _ 2 [.int .i64 2] from rfl) (Reps.none _ _))))); intro v18 w9 ho hb hg_ hnew_; clear hg_ hnew_; have B6 := Aside0.mk (blk_below S6.out hb); have B7 := Aside0.mk (blk_below S7.out hb); have BR := Aside0.mk (below_step SB.out hb); clear S6 S7 SB; obtain ⟨A18, c18, e18⟩ := Kd.R_slice ho; subst e18; have HRD := Aside0.mk (Kd.R_reads' ho).2.2; clear ho hb; have n0_ := Aside0.mk (Kd.R_below HO5.out BR.out); have n1_ := Aside0.mk (Kd.R_below HO11.out BR.out); have n2_ := Aside0.mk (below_step HB.out BR.out); have n3_ := Aside0.mk (blk_below BK3.out BR.out); clear HO5 HO11 HB BK3 BR; have HO5 := n0_; have HO11 := n1_; have HB := n2_; have BK3 := n3_; clear n0_ n1_ n2_ n3_)
      | (go_at_call 81; refine (impl_mapLabels.call1 (w := w) (c18 := c18) BK3.out B6.out B7.out (Kd.C_below HR1.out HB.out) HI.out HY_.out HRD.out).mono ?_; rintro e w' ⟨rfl, ⟨nd, rfl⟩⟩; rw [← HF1.out]; have n0_ := Aside0.mk (Kd.R_drewN HO5.out nd); have n1_ := Aside0.mk (Kd.R_drewN HO11.out nd); have n2_ := Aside0.mk (pw_below_drewN HB.out nd); have n3_ := Aside0.mk (blk_drewN BK3.out nd); have n4_ := Aside0.mk (blk_drewN B7.out nd); clear HO5 HO11 HB BK3 B7; generalize World.drewN _ nd = wz at n0_ n1_ n2_ n3_ n4_ ⊢; have HO5 := n0_; have HO11 := n1_; have HB := n2_; have BK3 := n3_; have B7 := n4_; clear n0_ n1_ n2_ n3_ n4_)
      | (go_at_call 81; refine (impl_mapLabels.call2 B7.out).mono ?_; rintro e w' ⟨rfl, ⟨nd, rfl⟩⟩; rw [← HKK.out]; have n0_ := Aside0.mk (Kd.R_drewN HO5.out nd); have n1_ := Aside0.mk (Kd.R_drewN HO11.out nd); have n2_ := Aside0.mk (pw_below_drewN HB.out nd); have n3_ := Aside0.mk (blk_drewN BK3.out nd); have n4_ := Aside0.mk (blk_drewN B7.out nd); clear HO5 HO11 HB BK3 B7; generalize World.drewN _ nd = wz at n0_ n1_ n2_ n3_ n4_ ⊢; have HO5 := n0_; have HO11 := n1_; have HB := n2_; have BK3 := n3_; have B7 := n4_; clear n0_ n1_ n2_ n3_ n4_)
      | ((with_reducible refine gate_builtin (b := .append) (xs := #[.tmp 25, .tmp 27]) rfl ?_); at_builtin; refine Kd.R_append (Kd.int .i64) (w0 := w) w.heap.size rfl (.tmp 25) (.tmp 27) 22 3 (.int .i64 0) 8 rfl Try.underlying22 info3 rfl (by decide) (by omega) u5 out kk [.int .i64 kk] (fun _ => True) (fun _ => False) rfl rfl ?aP (fun _ hk => hk.elim) ?aF ?aO ?aB ?aS ?aL ?_; (case aP => exact rfl); (case aB => exact BB); (case aF => exact (fun _ _ => trivial)); (case aO => exact (KR HO5)); (case aS => exact (below_size BB)); (case aL => have h1 := HL.out; have h2 := HC.out; have h3 := HI.out; omega); intro v28 w12 ho hb hg hat; rw [← Ny6.out] at ho; have n2_ := Aside0.mk (Kd.R_over' (KR HO11) (Kd.R_typed (KR HO5)) (by decide) hg); have n3_ := Aside0.mk (blk_grown (g := g3) (o := .cells #[.slice A1 l1.length c1] 28 (0, 0)) (BW BK3) hg (Kd.R_ne HO5.out BK3.out (by decide))); have n0_ := Aside0.mk (hb); have n1_ := Aside0.mk (ho); clear HB; clear HO5; clear HO11 BK3; have HB := n0_; have HO6 := n1_; have HO11 := n2_; have BK3 := n3_; clear n0_ n1_ n2_ n3_; clear ho hb hg hat))
     go_roundg d
     case measure => have := HD.out; omega
     case rel => exact ⟨d, i + 1, y6, by first | rfl | rw [hw], by have := HD.out; omega, Nat.le_refl _, ⟨by have := Ny6.out; have h2 := HL.out; rw [this, List.length_append, h2]; rfl⟩, HM, ⟨KR HO6⟩, ⟨KR HO11⟩, ⟨BB⟩, BK3⟩
    ·rw [if_neg hneg] at hkk
     subst hkk
     have d2_ : decide (kk < 0) = false := decide_eq_false hneg
     clear hneg
     go_wp2_with (first
      | ((with_reducible refine gate_dst (N := 6) rfl ?_); refine box_event ?hg (N := 6) ?hd (cs := #[.int .i64 0]) (t := 3) ?hr ?_; (case hd => rfl); (case hg => rfl); (case hr => exact GS); intro g6 hg w6 hbox hb; have BX6 := Aside0.mk hbox; have HB6 := Aside0.mk hb; have GE6 := Aside0.mk (Nat.le_of_eq hg.symm : wr.heap.size ≤ g6); clear hbox hb hg)
      | ((with_reducible refine gate_dst (N := 7) rfl ?_); refine box_event ?hg (N := 7) ?hd (cs := #[.int .i64 0, .int .i64 0, .int .i64 0]) (t := 61) ?hr ?_; (case hd => rfl); (case hg => rfl); (case hr => exact GS); intro g7 hg w7 hbox hb; have NE := Aside0.mk (by rw [hg]; exact Nat.ne_of_lt (blk_lt BX6.out) : g6 ≠ g7); have GE7 := Aside0.mk (by rw [hg]; exact HB6.out.size : wr.heap.size ≤ g7); have n0_ := Aside0.mk (below_step HB6.out hb); have n1_ := Aside0.mk (blk_below BX6.out hb); clear HB6 BX6; have HB7 := n0_; have BX6 := n1_; have BX7 := Aside0.mk hbox; clear n0_ n1_ hbox hb hg; have hn1 := NE.out; have hn2 := NE.out.symm; have z6 : w7.cell? ⟨g6, 0, none⟩ = some (.int .i64 0) := (blk_cell BX6.out 0).trans rfl; have z70 : w7.cell? ⟨g7, 0, none⟩ = some (.int .i64 0) := (blk_cell BX7.out 0).trans rfl; have z71 : w7.cell? ⟨g7, 1, none⟩ = some (.int .i64 0) := (blk_cell BX7.out 1).trans rfl; have z72 : w7.cell? ⟨g7, 2, none⟩ = some (.int .i64 0) := (blk_cell BX7.out 2).trans rfl; have y6_ := blk_frozen BX6.out 0; have y70 := blk_frozen BX7.out 0; have y71 := blk_frozen BX7.out 1; have y72 := blk_frozen BX7.out 2)
      | ((with_reducible refine gate_dst (N := 18) rfl ?_); generalize hw3 : (((w7.setCell ⟨g6, 0, none⟩ (.int .i64 (i : Int))).setCell ⟨g7, 0, none⟩ (.int .i64 p0)).setCell ⟨g7, 1, none⟩ (.int .i64 p1)).setCell ⟨g7, 2, none⟩ (.int .i64 p2) = w8; obtain ⟨s6, s7, sB⟩ := impl_mapLabels.stored BX6.out BX7.out HB7.out GE6.out GE7.out NE.out hw3; clear hw3 BX6 BX7 HB7 z6 z70 z71 z72 y6_ y70 y71 y72 hn1 hn2; have S6 := Aside0.mk s6; have S7 := Aside0.mk s7; have SB := Aside0.mk sB; clear s6 s7 sB; refine Kd.R_lit (Kd.int .i64) _ 3 ?hg (N := 18) ?hd (xs := ([0, 1, 2] : List Int)) (inner := [.int .i64 0, .int .i64 1, .int .i64 2]) (ok := fun _ => True) (okp := fun _ => True) ?hr ?hp (fun _ hk => hk) trivial (Below.refl _ _) (Nat.le_refl _) (by simp) ?_; (case hd => rfl); (case hg => rfl); (case hr => exact GS); (case hp => exact (Reps.one (show Kd.M (Kd.int .i64) _ _ _ 0 [.int .i64 0] from rfl) (Reps.one (show Kd.M (Kd.int .i64) _ _ _ 1 [.int .i64 1] from rfl) (Reps.one (show Kd.M (Kd.int .i64) _ _ _ 2 [.int .i64 2] from rfl) (Reps.none _ _))))); intro v18 w9 ho hb hg_ hnew_; clear hg_ hnew_; have B6 := Aside0.mk (blk_below S6.out hb); have B7 := Aside0.mk (blk_below S7.out hb); have BR := Aside0.mk (below_step SB.out hb); clear S6 S7 SB; obtain ⟨A18, c18, e18⟩ := Kd.R_slice ho; subst e18; have HRD := Aside0.mk (Kd.R_reads' ho).2.2; clear ho hb; have n0_ := Aside0.mk (Kd.R_below HO5.out BR.out); have n1_ := Aside0.mk (Kd.R_below HO11.out BR.out); have n2_ := Aside0.mk (below_step HB.out BR.out); have n3_ := Aside0.mk (blk_below BK3.out BR.out); clear HO5 HO11 HB BK3 BR; have HO5 := n0_; have HO11 := n1_; have HB := n2_; have BK3 := n3_; clear n0_ n1_ n2_ n3_)
      | (go_at_call 81; refine (impl_mapLabels.call1 (w := w) (c18 := c18) BK3.out B6.out B7.out (Kd.C_below HR1.out HB.out) HI.out HY_.out HRD.out).mono ?_; rintro e w' ⟨rfl, ⟨nd, rfl⟩⟩; rw [← HF1.out]; have n0_ := Aside0.mk (Kd.R_drewN HO5.out nd); have n1_ := Aside0.mk (Kd.R_drewN HO11.out nd); have n2_ := Aside0.mk (pw_below_drewN HB.out nd); have n3_ := Aside0.mk (blk_drewN BK3.out nd); have n4_ := Aside0.mk (blk_drewN B7.out nd); clear HO5 HO11 HB BK3 B7; generalize World.drewN _ nd = wz at n0_ n1_ n2_ n3_ n4_ ⊢; have HO5 := n0_; have HO11 := n1_; have HB := n2_; have BK3 := n3_; have B7 := n4_; clear n0_ n1_ n2_ n3_ n4_)
      | ((with_reducible refine gate_builtin (b := .append) (xs := #[.tmp 25, .tmp 27]) rfl ?_); at_builtin; refine Kd.R_append (Kd.int .i64) (w0 := w) w.heap.size rfl (.tmp 25) (.tmp 27) 22 3 (.int .i64 0) 8 rfl Try.underlying22 info3 rfl (by decide) (by omega) u5 out kk [.int .i64 kk] (fun _ => True) (fun _ => False) rfl rfl ?aP (fun _ hk => hk.elim) ?aF ?aO ?aB ?aS ?aL ?_; (case aP => exact rfl); (case aB => exact BB); (case aF => exact (fun _ _ => trivial)); (case aO => exact (KR HO5)); (case aS => exact (below_size BB)); (case aL => have h1 := HL.out; have h2 := HC.out; have h3 := HI.out; omega); intro v28 w12 ho hb hg hat; rw [← Ny6.out] at ho; have n2_ := Aside0.mk (Kd.R_over' (KR HO11) (Kd.R_typed (KR HO5)) (by decide) hg); have n3_ := Aside0.mk (blk_grown (g := g3) (o := .cells #[.slice A1 l1.length c1] 28 (0, 0)) (BW BK3) hg (Kd.R_ne HO5.out BK3.out (by decide))); have n0_ := Aside0.mk (hb); have n1_ := Aside0.mk (ho); clear HB; clear HO5; clear HO11 BK3; have HB := n0_; have HO6 := n1_; have HO11 := n2_; have BK3 := n3_; clear n0_ n1_ n2_ n3_; clear ho hb hg hat))
     go_roundg d
     case measure => have := HD.out; omega
     case rel => exact ⟨d, i + 1, y6, by first | rfl | rw [hw], by have := HD.out; omega, Nat.le_refl _, ⟨by have := Ny6.out; have h2 := HL.out; rw [this, List.length_append, h2]; rfl⟩, HM, ⟨KR HO6⟩, ⟨KR HO11⟩, ⟨BB⟩, BK3⟩
 ·rw [if_neg hc] at h
  cases h

/-! ### impl_FullOfMap: function 14 -/
def impl_FullOfMap.f (k : Nat) (a0 : Int) (l1 : List (List Int)) : Option (Int × Bool) := (impl_AreImages.f k a0 l1).bind fun t483 => (if t483 = true then ((impl_mapLabels.f k a0 l1).bind fun t484 => ((impl_FindFull.f k a0 t484).bind fun bt487 => (some (bt487.1, bt487.2)))) else (some (0, false)))
theorem impl_FullOfMap.mono : ∀ a0 a1 k, LeO (impl_FullOfMap.f k a0 a1) (impl_FullOfMap.f (k + 1) a0 a1) := by
 intro a0 a1 k
 unfold impl_FullOfMap.f
 repeat' first
   | with_reducible first | exact impl_AreImages.mono _ _ _ | exact impl_FindFull.mono _ _ _ | exact impl_mapLabels.mono _ _ _ | exact LeO.refl _ | exact LeO.none _ | refine LeO.ite ?_ ?_ | refine LeO.bind ?_ (fun _ => ?_)
   | exact LeO.none _ | refine LeO.ite ?_ ?_ | refine LeO.bind ?_ (fun _ => ?_)
theorem impl_FullOfMap.calls (k : Nat) (a0 : Int) (A1 : Option Addr) (c1 : Nat) (l1 : List (List Int)) (r1 : Int) (r2 : Bool) (w : World) (hr1 : Kd.C (Kd.slice 3 (Kd.int .i64)) w A1 l1.length l1) (hc1 : l1.length ≤ c1) (h : impl_FullOfMap.f k a0 l1 = some (r1, r2)) :
  Calls Try.prog 14 #[.int .i64 a0, .slice A1 l1.length c1] w fun e w' => e = .returned (.tuple #[.int .i64 r1, .bool r2]) ∧ Below w.heap.size w w' := by
 have HR1 := Aside0.mk hr1
 have HC1 := Aside0.mk hc1
 clear hr1 hc1
 have HB := Aside0.mk (Below.refl w.heap.size w)
 have H : ((impl_AreImages.f k a0 l1).bind fun t483 => (if t483 = true then ((impl_mapLabels.f k a0 l1).bind fun t484 => ((impl_FindFull.f k a0 t484).bind fun bt487 => (some (bt487.1, bt487.2)))) else (some (0, false)))) = some (r1, r2) := h
 clear h
 obtain ⟨t483, A30, H⟩ := Option.bind_eq_some_iff.mp H
 have A3 := Aside0.mk A30
 clear A30
 by_cases c4 : t483 = true
 ·subst c4
  replace H := IP H
  obtain ⟨t484, A50, H⟩ := Option.bind_eq_some_iff.mp H
  have A5 := Aside0.mk A50
  clear A50
  obtain ⟨⟨t487, t488⟩, A60, H⟩ := Option.bind_eq_some_iff.mp H
  replace H : (some (t487, t488)) = some (r1, r2) := H
  have A6 := Aside0.mk A60
  clear A60
  simp only [Option.some.injEq, Prod.mk.injEq] at H
  obtain ⟨rfl, rfl⟩ := H
  go_enter Try.func14, Try.ntmps14
  go_wp2_with (first | ((with_reducible refine gate_callee (f := 41) rfl ?_); refine goesL_ (some 8) rfl rfl Try.func41 (by kernel_rfl) rfl #[.int .i64 a0, .slice A1 l1.length c1] rfl TA ?_; (with_reducible refine (impl_AreImages.calls k a0 _ _ l1 true _ ?side1 ?side2 A3.out).mono ?_); (case side1 => exact CW HR1.out); (case side2 => exact HC1.out); rintro e w7 ⟨rfl, hb⟩; refine ⟨_, rfl, ?_⟩; have n0_ := Aside0.mk (below_step BB hb); clear HB; have HB := n0_; clear n0_; (try clear hb); (try clear hb2); (try clear hk); (try clear hi)) | ((with_reducible refine gate_callee (f := 43) rfl ?_); refine goesL_ (some 13) rfl rfl Try.func43 (by kernel_rfl) rfl #[.int .i64 a0, .slice A1 l1.length c1] rfl TA ?_; (with_reducible refine (impl_mapLabels.calls k a0 _ _ l1 t484 _ ?side1 ?side2 A5.out).mono ?_); (case side1 => exact CW (Kd.C_below HR1.out HB.out)); (case side2 => exact HC1.out); rintro e w8 ⟨v485, rfl, ho0, hb⟩; refine ⟨_, rfl, ?_⟩; have n0_ := Aside0.mk (Kd.R_lower ho0 (below_size BB)); have n1_ := Aside0.mk (below_step BB hb); clear HB; have HO486 := n0_; have HB := n1_; clear n0_ n1_; (try clear hb); (try clear hb2); (try clear hk); (try clear hi); (try clear ho0); obtain ⟨Ao9, co9, eo9⟩ := Kd.R_slice HO486.out; subst eo9) | ((with_reducible refine gate_callee (f := 42) rfl ?_); refine goesL_ (some 14) rfl rfl Try.func42 (by kernel_rfl) rfl #[.int .i64 a0, .slice Ao9 t484.length co9] rfl TA ?_; (with_reducible refine (impl_FindFull.calls k a0 _ _ t484 t487 t488 _ ?side1 ?side2 A6.out).mono ?_); (case side1 => exact CW (Kd.R_reads' HO486.out).2.2); (case side2 => exact (Kd.R_reads' HO486.out).2.1); rintro e w10 ⟨rfl, hb⟩; refine ⟨_, rfl, ?_⟩; have n0_ := Aside0.mk (Kd.R_below (KR HO486) hb); have n1_ := Aside0.mk (below_step BB hb); clear HO486; clear HB; have HO486 := n0_; have HB := n1_; clear n0_ n1_; (try clear hb); (try clear hb2); (try clear hk); (try clear hi)))
  go_ret2
  exact ⟨RE, BB⟩
 ·replace c4 := Bool.eq_false_iff.mpr c4
  subst c4
  replace H := IN H
  simp only [Option.some.injEq, Prod.mk.injEq] at H
  obtain ⟨rfl, rfl⟩ := H
  go_enter Try.func14, Try.ntmps14
  go_wp2_with (first | ((with_reducible refine gate_callee (f := 41) rfl ?_); refine goesL_ (some 8) rfl rfl Try.func41 (by kernel_rfl) rfl #[.int .i64 a0, .slice A1 l1.length c1] rfl TA ?_; (with_reducible refine (impl_AreImages.calls k a0 _ _ l1 false _ ?side1 ?side2 A3.out).mono ?_); (case side1 => exact CW HR1.out); (case side2 => exact HC1.out); rintro e w11 ⟨rfl, hb⟩; refine ⟨_, rfl, ?_⟩; have n0_ := Aside0.mk (below_step BB hb); clear HB; have HB := n0_; clear n0_; (try clear hb); (try clear hb2); (try clear hk); (try clear hi)))
  go_ret2
  exact ⟨RE, BB⟩

/-! ### laws_eqIntS: function 10 -/
def laws_eqIntS.l0 : Nat → List Int → List Int → Int → Option (Bool)
 | 0, _, _, _ => none
 | k + 1, x0, x1, x5 => if x5 < (x0.length : Int) then (if 0 ≤ x5 then (if x5 < (x1.length : Int) then (if (rd x0 x5) = (rd x1 x5) then (laws_eqIntS.l0 k x0 x1 (wrap64 (x5 + 1))) else (some false)) else (none)) else (none)) else (some true)
def laws_eqIntS.f (k : Nat) (l0 : List Int) (l1 : List Int) : Option (Bool) := if (l0.length : Int) = (l1.length : Int) then (laws_eqIntS.l0 k l0 l1 0) else (some false)
theorem laws_eqIntS.mono_l : ∀ k, (∀ y0 y1 y2, LeO (laws_eqIntS.l0 k y0 y1 y2) (laws_eqIntS.l0 (k + 1) y0 y1 y2))
 | 0 => fun _ _ _ r h => by simp [laws_eqIntS.l0] at h
 | k + 1 => by
  have ih0 := laws_eqIntS.mono_l k
  ·intro y0 y1 y2
   unfold laws_eqIntS.l0
   repeat' first
   | with_reducible first | exact ih0 _ _ _ | exact LeO.refl _ | exact LeO.none _ | refine LeO.ite ?_ ?_ | refine LeO.bind ?_ (fun _ => ?_)
   | exact LeO.none _ | refine LeO.ite ?_ ?_ | refine LeO.bind ?_ (fun _ => ?_)
theorem laws_eqIntS.mono : ∀ a0 a1 k, LeO (laws_eqIntS.f k a0 a1) (laws_eqIntS.f (k + 1) a0 a1) := by
 intro a0 a1 k
 have ih0 := laws_eqIntS.mono_l k
 unfold laws_eqIntS.f
 repeat' first
   | with_reducible first | exact ih0 _ _ _ | exact LeO.refl _ | exact LeO.none _ | refine LeO.ite ?_ ?_ | refine LeO.bind ?_ (fun _ => ?_)
   | exact LeO.none _ | refine LeO.ite ?_ ?_ | refine LeO.bind ?_ (fun _ => ?_)
theorem laws_eqIntS.calls (k : Nat) (A0 : Option Addr) (c0 : Nat) (l0 : List Int) (A1 : Option Addr) (c1 : Nat) (l1 : List Int) (r : Bool) (w : World) (hr0 : Kd.C (Kd.int .i64) w A0 l0.length l0) (hc0 : l0.length ≤ c0) (hr1 : Kd.C (Kd.int .i64) w A1 l1.length l1) (hc1 : l1.length ≤ c1) (h : laws_eqIntS.f k l0 l1 = some r) :
  Calls Try.prog 10 #[.slice A0 l0.length c0, .slice A1 l1.length c1] w fun e w' => e = .returned (.bool r) ∧ Drawn0 w w' := by
 have HR0 := Aside0.mk hr0
 have HC0 := Aside0.mk hc0
 clear hr0 hc0
 have HR1 := Aside0.mk hr1
 have HC1 := Aside0.mk hc1
 clear hr1 hc1
 have H : (if (l0.length : Int) = (l1.length : Int) then (laws_eqIntS.l0 k l0 l1 0) else (some false)) = some r := h
 clear h
 by_cases c3 : (l0.length : Int) = (l1.length : Int)
 ·rw [if_pos c3] at H
  have c3b0 : ((l0.length : Int) == (l1.length : Int)) = true := beq_iff_eq.mpr c3
  have c3b1 : ((l0.length : Int) != (l1.length : Int)) = false := bne_eq_false_iff_eq.mpr c3
  have c3b2 : (l0.length == l1.length) = true := by first | simpa using c3 | (simp at c3 ⊢; omega)
  clear c3
  have H' := Aside0.mk H
  clear H
  go_enter Try.func10, Try.ntmps10
  go_wp2
  repeat (go_quiet (fail); try go_wp2)
  go_loopg [5] k (fun kq v5 w' => ∃ (x5_1 : Int), v5 = .int .i64 x5_1 ∧ Aside0 (laws_eqIntS.l0 kq l0 l1 x5_1 = some r) ∧ Aside0 (kq ≤ k) ∧ Drawn0 w w')
  case atStart => exact ⟨(0), RF, H', ⟨Nat.le_refl _⟩, by repeat (first | exact Drawn0.refl _ | apply Drawn0.step)⟩
  case round =>
   clear H'
   try clear c1
   try clear p2
   try clear c3
   try clear c3b0
   try clear c3b1
   try clear c3b2
   obtain ⟨x5_1, rfl, HA, HK1, ⟨m1, rfl⟩⟩ := hrel
   cases gk with
   | zero => exact absurd HA.out (by simp [laws_eqIntS.l0])
   | succ k1 =>
    have H := HA.out
    clear HA
    simp only [laws_eqIntS.l0] at H
    by_cases c4 : x5_1 < (l0.length : Int)
    ·rw [if_pos c4] at H
     have c4b0 : decide (x5_1 < (l0.length : Int)) = true := decide_eq_true c4
     clear c4
     by_cases c5 : 0 ≤ x5_1
     ·rw [if_pos c5] at H
      have c5b0 : decide (0 ≤ x5_1) = true := decide_eq_true c5
      clear c5
      by_cases c6 : x5_1 < (l1.length : Int)
      ·rw [if_pos c6] at H
       have c6b0 : decide (x5_1 < (l1.length : Int)) = true := decide_eq_true c6
       clear c6
       by_cases c7 : (rd l0 x5_1) = (rd l1 x5_1)
       ·rw [if_pos c7] at H
        have c7b0 : ((rd l0 x5_1) == (rd l1 x5_1)) = true := beq_iff_eq.mpr c7
        have c7b1 : ((rd l0 x5_1) != (rd l1 x5_1)) = false := bne_eq_false_iff_eq.mpr c7
        clear c7
        have H' := Aside0.mk H
        clear H
        have p489 : 0 ≤ (x5_1 : Int) := of_decide_eq_true AS
        have q489 : x5_1 < (l0.length : Int) := of_decide_eq_true AS
        obtain ⟨ad489, e489, hx489_0⟩ := Kd.at_int HR0.out x5_1 p489 q489
        cases e489
        replace p489 := eq_true p489
        replace q489 := eq_true q489
        have p490 : 0 ≤ (x5_1 : Int) := of_decide_eq_true AS
        have q490 : x5_1 < (l1.length : Int) := of_decide_eq_true AS
        obtain ⟨ad490, e490, hx490_0⟩ := Kd.at_int HR1.out x5_1 p490 q490
        cases e490
        replace p490 := eq_true p490
        replace q490 := eq_true q490
        go_wp2
        repeat (go_quiet (fail); try go_wp2)
        go_roundg k1
        case measure => have := HK1.out; omega
        case rel => exact ⟨(wrap64 (x5_1 + 1)), RF, H', ⟨by have := HK1.out; omega⟩, by repeat (first | exact Drawn0.refl _ | apply Drawn0.step)⟩
       ·rw [if_neg c7] at H
        have c7b0 : ((rd l0 x5_1) == (rd l1 x5_1)) = false := beq_eq_false_iff_ne.mpr c7
        have c7b1 : ((rd l0 x5_1) != (rd l1 x5_1)) = true := bne_iff_ne.mpr c7
        obtain rfl := Option.some.inj H
        have p489 : 0 ≤ (x5_1 : Int) := of_decide_eq_true AS
        have q489 : x5_1 < (l0.length : Int) := of_decide_eq_true AS
        obtain ⟨ad489, e489, hx489_0⟩ := Kd.at_int HR0.out x5_1 p489 q489
        cases e489
        replace p489 := eq_true p489
        replace q489 := eq_true q489
        have p490 : 0 ≤ (x5_1 : Int) := of_decide_eq_true AS
        have q490 : x5_1 < (l1.length : Int) := of_decide_eq_true AS
        obtain ⟨ad490, e490, hx490_0⟩ := Kd.at_int HR1.out x5_1 p490 q490
        cases e490
        replace p490 := eq_true p490
        replace q490 := eq_true q490
        go_wp2
        repeat (go_quiet (fail); try go_wp2)
        go_ret
        exact ⟨RF, DR⟩
      ·rw [if_neg c6] at H
       cases H
     ·rw [if_neg c5] at H
      cases H
    ·rw [if_neg c4] at H
     have c4b0 : decide (x5_1 < (l0.length : Int)) = false := decide_eq_false c4
     clear c4
     obtain rfl := Option.some.inj H
     go_wp2
     repeat (go_quiet (fail); try go_wp2)
     go_ret
     exact ⟨RF, DR⟩
 ·rw [if_neg c3] at H
  have c3b0 : ((l0.length : Int) == (l1.length : Int)) = false := beq_eq_false_iff_ne.mpr c3
  have c3b1 : ((l0.length : Int) != (l1.length : Int)) = true := bne_iff_ne.mpr c3
  have c3b2 : (l0.length == l1.length) = false := by first | simpa using c3 | (simp at c3 ⊢; omega)
  obtain rfl := Option.some.inj H
  go_enter Try.func10, Try.ntmps10
  go_wp2
  repeat (go_quiet (fail); try go_wp2)
  go_ret
  exact ⟨RF, DR⟩

/-! ### laws_eqIntSS: function 15 -/
def laws_eqIntSS.l0 : Nat → List (List Int) → List (List Int) → Int → Option (Bool)
 | 0, _, _, _ => none
 | k + 1, x0, x1, x5 => if x5 < (x0.length : Int) then (if 0 ≤ x5 then (if x5 < (x1.length : Int) then ((laws_eqIntS.f k (rd_L1 x0 x5) (rd_L1 x1 x5)).bind fun t493 => (if t493 = true then (laws_eqIntSS.l0 k x0 x1 (wrap64 (x5 + 1))) else (some false))) else (none)) else (none)) else (some true)
def laws_eqIntSS.f (k : Nat) (l0 : List (List Int)) (l1 : List (List Int)) : Option (Bool) := if (l0.length : Int) = (l1.length : Int) then (laws_eqIntSS.l0 k l0 l1 0) else (some false)
theorem laws_eqIntSS.mono_l : ∀ k, (∀ y0 y1 y2, LeO (laws_eqIntSS.l0 k y0 y1 y2) (laws_eqIntSS.l0 (k + 1) y0 y1 y2))
 | 0 => fun _ _ _ r h => by simp [laws_eqIntSS.l0] at h
 | k + 1 => by
  have ih0 := laws_eqIntSS.mono_l k
  ·intro y0 y1 y2
   unfold laws_eqIntSS.l0
   repeat' first
   | with_reducible first | exact ih0 _ _ _ | exact laws_eqIntS.mono _ _ _ | exact LeO.refl _ | exact LeO.none _ | refine LeO.ite ?_ ?_ | refine LeO.bind ?_ (fun _ => ?_)
   | exact LeO.none _ | refine LeO.ite ?_ ?_ | refine LeO.bind ?_ (fun _ => ?_)
theorem laws_eqIntSS.mono : ∀ a0 a1 k, LeO (laws_eqIntSS.f k a0 a1) (laws_eqIntSS.f (k + 1) a0 a1) := by
 intro a0 a1 k
 have ih0 := laws_eqIntSS.mono_l k
 unfold laws_eqIntSS.f
 repeat' first
   | with_reducible first | exact ih0 _ _ _ | exact laws_eqIntS.mono _ _ _ | exact LeO.refl _ | exact LeO.none _ | refine LeO.ite ?_ ?_ | refine LeO.bind ?_ (fun _ => ?_)
   | exact LeO.none _ | refine LeO.ite ?_ ?_ | refine LeO.bind ?_ (fun _ => ?_)
theorem laws_eqIntSS.calls (k : Nat) (A0 : Option Addr) (c0 : Nat) (l0 : List (List Int)) (A1 : Option Addr) (c1 : Nat) (l1 : List (List Int)) (r : Bool) (w : World) (hr0 : Kd.C (Kd.slice 3 (Kd.int .i64)) w A0 l0.length l0) (hc0 : l0.length ≤ c0) (hr1 : Kd.C (Kd.slice 3 (Kd.int .i64)) w A1 l1.length l1) (hc1 : l1.length ≤ c1) (h : laws_eqIntSS.f k l0 l1 = some r) :
  Calls Try.prog 15 #[.slice A0 l0.length c0, .slice A1 l1.length c1] w fun e w' => e = .returned (.bool r) ∧ Drawn0 w w' := by
 have HR0 := Aside0.mk hr0
 have HC0 := Aside0.mk hc0
 clear hr0 hc0
 have HR1 := Aside0.mk hr1
 have HC1 := Aside0.mk hc1
 clear hr1 hc1
 have H : (if (l0.length : Int) = (l1.length : Int) then (laws_eqIntSS.l0 k l0 l1 0) else (some false)) = some r := h
 clear h
 by_cases c3 : (l0.length : Int) = (l1.length : Int)
 ·rw [if_pos c3] at H
  have c3b0 : ((l0.length : Int) == (l1.length : Int)) = true := beq_iff_eq.mpr c3
  have c3b1 : ((l0.length : Int) != (l1.length : Int)) = false := bne_eq_false_iff_eq.mpr c3
  have c3b2 : (l0.length == l1.length) = true := by first | simpa using c3 | (simp at c3 ⊢; omega)
  clear c3
  have H' := Aside0.mk H
  clear H
  go_enter Try.func15, Try.ntmps15
  go_wp2
  repeat (go_quiet (fail); try go_wp2)
  go_loopg [5] k (fun kq v5 w' => ∃ (x5_1 : Int), v5 = .int .i64 x5_1 ∧ Aside0 (laws_eqIntSS.l0 kq l0 l1 x5_1 = some r) ∧ Aside0 (kq ≤ k) ∧ Drawn0 w w')
  case atStart => exact ⟨(0), RF, H', ⟨Nat.le_refl _⟩, by repeat (first | exact Drawn0.refl _ | apply Drawn0.step)⟩
  case round =>
   clear H'
   try clear c1
   try clear p2
   try clear c3
   try clear c3b0
   try clear c3b1
   try clear c3b2
   obtain ⟨x5_1, rfl, HA, HK1, ⟨m1, rfl⟩⟩ := hrel
   cases gk with
   | zero => exact absurd HA.out (by simp [laws_eqIntSS.l0])
   | succ k1 =>
    have H := HA.out
    clear HA
    simp only [laws_eqIntSS.l0] at H
    by_cases c4 : x5_1 < (l0.length : Int)
    ·rw [if_pos c4] at H
     have c4b0 : decide (x5_1 < (l0.length : Int)) = true := decide_eq_true c4
     clear c4
     by_cases c5 : 0 ≤ x5_1
     ·rw [if_pos c5] at H
      have c5b0 : decide (0 ≤ x5_1) = true := decide_eq_true c5
      clear c5
      by_cases c6 : x5_1 < (l1.length : Int)
      ·rw [if_pos c6] at H
       have c6b0 : decide (x5_1 < (l1.length : Int)) = true := decide_eq_true c6
       clear c6
       obtain ⟨t493, A70, H⟩ := Option.bind_eq_some_iff.mp H
       have A7 := Aside0.mk A70
       clear A70
       by_cases c8 : t493 = true
       ·subst c8
        replace H := IP H
        have H' := Aside0.mk H
        clear H
        have p491 : 0 ≤ (x5_1 : Int) := of_decide_eq_true AS
        have q491 : x5_1 < (l0.length : Int) := of_decide_eq_true AS
        obtain ⟨ad491, A491_0, c491_0, e491, hx491_0, hl491_0, hi491_0⟩ := at_L1 HR0.out x5_1 p491 q491
        cases e491
        have HR491_0 := Aside0.mk hi491_0
        have HC491_0 := Aside0.mk hl491_0
        clear hi491_0 hl491_0
        replace p491 := eq_true p491
        replace q491 := eq_true q491
        have p492 : 0 ≤ (x5_1 : Int) := of_decide_eq_true AS
        have q492 : x5_1 < (l1.length : Int) := of_decide_eq_true AS
        obtain ⟨ad492, A492_0, c492_0, e492, hx492_0, hl492_0, hi492_0⟩ := at_L1 HR1.out x5_1 p492 q492
        cases e492
        have HR492_0 := Aside0.mk hi492_0
        have HC492_0 := Aside0.mk hl492_0
        clear hi492_0 hl492_0
        replace p492 := eq_true p492
        replace q492 := eq_true q492
        go_wp2_with (first | (go_at_call 10; (with_reducible refine (laws_eqIntS.calls k1 _ _ (rd_L1 l0 x5_1) _ _ (rd_L1 l1 x5_1) true _ ?side1 ?side2 ?side3 ?side4 A7.out).mono ?_); (case side1 => exact CW HR491_0.out); (case side2 => exact HC491_0.out); (case side3 => exact CW HR492_0.out); (case side4 => exact HC492_0.out); rintro e w' ⟨rfl, ⟨nd, rfl⟩⟩; (try first | exact ⟨rfl, _, World.drewN_drewN _ _ _⟩ | exact ⟨rfl, _, Eq.trans (World.drewN_drewN _ _ _) (congrArg (World.drewN _) (Nat.add_assoc _ _ _))⟩)))
        repeat (go_quiet (first | (go_at_call 10; (with_reducible refine (laws_eqIntS.calls k1 _ _ (rd_L1 l0 x5_1) _ _ (rd_L1 l1 x5_1) true _ ?side1 ?side2 ?side3 ?side4 A7.out).mono ?_); (case side1 => exact CW HR491_0.out); (case side2 => exact HC491_0.out); (case side3 => exact CW HR492_0.out); (case side4 => exact HC492_0.out); rintro e w' ⟨rfl, ⟨nd, rfl⟩⟩; (try first | exact ⟨rfl, _, World.drewN_drewN _ _ _⟩ | exact ⟨rfl, _, Eq.trans (World.drewN_drewN _ _ _) (congrArg (World.drewN _) (Nat.add_assoc _ _ _))⟩))); try go_wp2_with (first | (go_at_call 10; (with_reducible refine (laws_eqIntS.calls k1 _ _ (rd_L1 l0 x5_1) _ _ (rd_L1 l1 x5_1) true _ ?side1 ?side2 ?side3 ?side4 A7.out).mono ?_); (case side1 => exact CW HR491_0.out); (case side2 => exact HC491_0.out); (case side3 => exact CW HR492_0.out); (case side4 => exact HC492_0.out); rintro e w' ⟨rfl, ⟨nd, rfl⟩⟩; (try first | exact ⟨rfl, _, World.drewN_drewN _ _ _⟩ | exact ⟨rfl, _, Eq.trans (World.drewN_drewN _ _ _) (congrArg (World.drewN _) (Nat.add_assoc _ _ _))⟩))))
        go_roundg k1
        case measure => have := HK1.out; omega
        case rel => exact ⟨(wrap64 (x5_1 + 1)), RF, H', ⟨by have := HK1.out; omega⟩, by repeat (first | exact Drawn0.refl _ | apply Drawn0.step)⟩
       ·replace c8 := Bool.eq_false_iff.mpr c8
        subst c8
        replace H := IN H
        obtain rfl := Option.some.inj H
        have p491 : 0 ≤ (x5_1 : Int) := of_decide_eq_true AS
        have q491 : x5_1 < (l0.length : Int) := of_decide_eq_true AS
        obtain ⟨ad491, A491_0, c491_0, e491, hx491_0, hl491_0, hi491_0⟩ := at_L1 HR0.out x5_1 p491 q491
        cases e491
        have HR491_0 := Aside0.mk hi491_0
        have HC491_0 := Aside0.mk hl491_0
        clear hi491_0 hl491_0
        replace p491 := eq_true p491
        replace q491 := eq_true q491
        have p492 : 0 ≤ (x5_1 : Int) := of_decide_eq_true AS
        have q492 : x5_1 < (l1.length : Int) := of_decide_eq_true AS
        obtain ⟨ad492, A492_0, c492_0, e492, hx492_0, hl492_0, hi492_0⟩ := at_L1 HR1.out x5_1 p492 q492
        cases e492
        have HR492_0 := Aside0.mk hi492_0
        have HC492_0 := Aside0.mk hl492_0
        clear hi492_0 hl492_0
        replace p492 := eq_true p492
        replace q492 := eq_true q492
        go_wp2_with (first | (go_at_call 10; (with_reducible refine (laws_eqIntS.calls k1 _ _ (rd_L1 l0 x5_1) _ _ (rd_L1 l1 x5_1) false _ ?side1 ?side2 ?side3 ?side4 A7.out).mono ?_); (case side1 => exact CW HR491_0.out); (case side2 => exact HC491_0.out); (case side3 => exact CW HR492_0.out); (case side4 => exact HC492_0.out); rintro e w' ⟨rfl, ⟨nd, rfl⟩⟩; (try first | exact ⟨rfl, _, World.drewN_drewN _ _ _⟩ | exact ⟨rfl, _, Eq.trans (World.drewN_drewN _ _ _) (congrArg (World.drewN _) (Nat.add_assoc _ _ _))⟩)))
        repeat (go_quiet (first | (go_at_call 10; (with_reducible refine (laws_eqIntS.calls k1 _ _ (rd_L1 l0 x5_1) _ _ (rd_L1 l1 x5_1) false _ ?side1 ?side2 ?side3 ?side4 A7.out).mono ?_); (case side1 => exact CW HR491_0.out); (case side2 => exact HC491_0.out); (case side3 => exact CW HR492_0.out); (case side4 => exact HC492_0.out); rintro e w' ⟨rfl, ⟨nd, rfl⟩⟩; (try first | exact ⟨rfl, _, World.drewN_drewN _ _ _⟩ | exact ⟨rfl, _, Eq.trans (World.drewN_drewN _ _ _) (congrArg (World.drewN _) (Nat.add_assoc _ _ _))⟩))); try go_wp2_with (first | (go_at_call 10; (with_reducible refine (laws_eqIntS.calls k1 _ _ (rd_L1 l0 x5_1) _ _ (rd_L1 l1 x5_1) false _ ?side1 ?side2 ?side3 ?side4 A7.out).mono ?_); (case side1 => exact CW HR491_0.out); (case side2 => exact HC491_0.out); (case side3 => exact CW HR492_0.out); (case side4 => exact HC492_0.out); rintro e w' ⟨rfl, ⟨nd, rfl⟩⟩; (try first | exact ⟨rfl, _, World.drewN_drewN _ _ _⟩ | exact ⟨rfl, _, Eq.trans (World.drewN_drewN _ _ _) (congrArg (World.drewN _) (Nat.add_assoc _ _ _))⟩))))
        go_ret
        exact ⟨RF, DR⟩
      ·rw [if_neg c6] at H
       cases H
     ·rw [if_neg c5] at H
      cases H
    ·rw [if_neg c4] at H
     have c4b0 : decide (x5_1 < (l0.length : Int)) = false := decide_eq_false c4
     clear c4
     obtain rfl := Option.some.inj H
     go_wp2
     repeat (go_quiet (fail); try go_wp2)
     go_ret
     exact ⟨RF, DR⟩
 ·rw [if_neg c3] at H
  have c3b0 : ((l0.length : Int) == (l1.length : Int)) = false := beq_eq_false_iff_ne.mpr c3
  have c3b1 : ((l0.length : Int) != (l1.length : Int)) = true := bne_iff_ne.mpr c3
  have c3b2 : (l0.length == l1.length) = false := by first | simpa using c3 | (simp at c3 ⊢; omega)
  obtain rfl := Option.some.inj H
  go_enter Try.func15, Try.ntmps15
  go_wp2
  repeat (go_quiet (fail); try go_wp2)
  go_ret
  exact ⟨RF, DR⟩

end Go.Proofs.Ytgpplbaloajgdab.PFnExactFullOfMap
