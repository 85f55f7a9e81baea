/- The law's text, and what it rests on, in one. -/
import Derived.Test.YtafjjbkkcedgnaaDoorPFnHalfWindowsx
import Derived.Laws.Bits64b
/-! Plain lemmas on numbers and rounds. -/
namespace Go.Proofs.YtafjjbkkcedgnaaDoor.QFnHalfWindows
open Go.RowKit Go.Proofs.YtafjjbkkcedgnaaDoor.PFnHalfWindows Go.Proofs.YtafjjbkkcedgnaaDoorW.PrintWords Go.Proofs.YtafjjbkkcedgnaaDoorW.PrintLast Go.Proofs.YtafjjbkkcedgnaaDoorW.PrintMore
set_option linter.unusedVariables false
set_option linter.unusedSimpArgs false
theorem wr {x : Int} (h : -9223372036854775808 ≤ x) (h' : x ≤ 9223372036854775807) : wrap64 x = x := by unfold wrap64; omega
theorem ev_eq {α : Type} {g : Nat → Option α} {r s : α} (h : Ev g r) (e : r = s) : Ev g s := e ▸ h
theorem ev_const {α : Type} {o : Option α} {r : α} (h : o = some r) : Ev (fun _ => o) r := ⟨0, fun _ _ => h⟩
/-- The values of two runs of one program are the same. -/
theorem ev_one {α : Type} {g : Nat → Option α} {r s : α} (h : Ev g r) (h' : Ev g s) : r = s := by
  obtain ⟨K, h⟩ := h
  obtain ⟨K', h'⟩ := h'
  have a := h (max K K') (by omega)
  have b := h' (max K K') (by omega)
  rw [a] at b
  exact Option.some.inj b
theorem ev_bind0 {α β : Type} {o : Option α} {f : Nat → α → Option β} {a : α} {r : β} (h : o = some a) (k : Ev (fun n => f n a) r) : Ev (fun n => o.bind (f n)) r :=
  Ev.bind (g := fun _ => o) (ev_const h) k
theorem ev_pos {α : Type} {c : Prop} [Decidable c] {f g : Nat → Option α} {r : α} (h : c) (k : Ev f r) : Ev (fun n => if c then f n else g n) r := Ev.congr (fun _ => if_pos h) k
theorem ev_neg {α : Type} {c : Prop} [Decidable c] {f g : Nat → Option α} {r : α} (h : ¬ c) (k : Ev g r) : Ev (fun n => if c then f n else g n) r := Ev.congr (fun _ => if_neg h) k
theorem rd_get {l : List Int} {i : Int} (h0 : 0 ≤ i) (h : i < l.length) : l[i.toNat]? = some (rd l i) := by
  unfold rd
  rw [List.getD_eq_getElem?_getD, List.getElem?_eq_getElem (by omega)]
  rfl
theorem rd_nat (l : List Int) (i : Nat) : rd l (i : Int) = l.getD i 0 := rfl
theorem rd_one (x : Int) : rd [x] 0 = x := rfl
end Go.Proofs.YtafjjbkkcedgnaaDoor.QFnHalfWindows
/-! What the reference's cursor draws: a number within the bounds that were asked for, whatever the bytes are. -/
namespace Go.Proofs.YtafjjbkkcedgnaaDoor.QFnHalfWindows
open Go.RowKit Go.Proofs.YtafjjbkkcedgnaaDoor.PFnHalfWindows Go.Proofs.YtafjjbkkcedgnaaDoorW.PrintWords Go.Proofs.YtafjjbkkcedgnaaDoorW.PrintLast Go.Proofs.YtafjjbkkcedgnaaDoorW.PrintMore
set_option linter.unusedVariables false
set_option linter.unusedSimpArgs false
def U8 (l : List Int) : Prop := ∀ x ∈ l, (Lit.int .u8 x).wf = true
theorem u8_rd {l : List Int} (h : U8 l) (i : Int) : 0 ≤ rd l i ∧ rd l i ≤ 255 := by
  unfold rd
  rw [List.getD_eq_getElem?_getD]
  cases hc : l[i.toNat]? with
  | none => exact ⟨Int.le_refl 0, by decide⟩
  | some x =>
    have h1 := h x (List.mem_of_getElem? hc)
    have h2 := Bool.and_eq_true_iff.1 (show (decide (IntKind.u8.min ≤ x) && decide (x ≤ IntKind.u8.max)) = true from h1)
    have h3 : (0 : Int) ≤ x := of_decide_eq_true h2.1
    have h4 : x ≤ 255 := of_decide_eq_true h2.2
    exact ⟨h3, h4⟩
theorem and255 {x : Int} (h0 : 0 ≤ x) (h1 : x < 18446744073709551616) : 0 ≤ Go.bits .and .u64 x 255 ∧ Go.bits .and .u64 x 255 ≤ 255 := by
  obtain ⟨n, e⟩ := Int.eq_ofNat_of_zero_le h0
  subst e
  have h2 := bits_and_u64_nat n 255 (by omega) (by omega)
  rw [show ((255 : Nat) : Int) = 255 from rfl] at h2
  rw [h2]
  have := @Nat.and_le_right n 255
  omega
theorem next_ev {l : List Int} (h : U8 l) {a : Int} (s : Int) (h0 : 0 ≤ a) (h1 : a < 4611686018427387904) : ∃ v s', spec_l1Cur_next.f l a s = some (v, a + 1, s') ∧ 0 ≤ v ∧ v ≤ 255 := by
  unfold spec_l1Cur_next.f
  have hw : ∀ x : Int, 0 ≤ IntKind.u64.wrap x ∧ IntKind.u64.wrap x < 18446744073709551616 := fun x => by rw [IntKind.wrap_u64]; omega
  have hv : ∀ x : Int, 0 ≤ wrap64 (Go.bits .and .u64 (IntKind.u64.wrap x / 1099511627776) 255) ∧ wrap64 (Go.bits .and .u64 (IntKind.u64.wrap x / 1099511627776) 255) ≤ 255 := fun x => by
    have := hw x
    have h2 := and255 (x := IntKind.u64.wrap x / 1099511627776) (by omega) (by omega)
    rw [wr (by omega) (by omega)]
    exact h2
  rw [wr (show -9223372036854775808 ≤ a + 1 by omega) (by omega)]
  by_cases hl : a < (l.length : Int)
  · have hr := u8_rd h a
    rw [if_pos hl, if_pos h0, wr (show -9223372036854775808 ≤ rd l a by omega) (by omega), if_pos (by omega)]
    exact ⟨_, _, rfl, hr.1, hr.2⟩
  · rw [if_neg hl, if_neg (by omega)]
    exact ⟨_, _, rfl, hv _⟩
theorem pick_ev {l : List Int} (h : U8 l) {a : Int} (s n : Int) (h0 : 0 ≤ a) (h1 : a < 4611686018427387900) : ∃ v a' s', spec_l1Cur_pick.f l a s n = some (v, a', s') ∧ 0 ≤ v ∧ (v < n ∨ v = 0) ∧ a ≤ a' ∧ a' ≤ a + 2 := by
  unfold spec_l1Cur_pick.f
  by_cases hn : n ≤ 1
  · rw [if_pos hn]
    exact ⟨_, _, _, rfl, Int.le_refl 0, .inr rfl, by omega, by omega⟩
  · obtain ⟨v, s1, e1, v0, v1⟩ := next_ev h s h0 (by omega)
    rw [if_neg hn, e1, Option.bind_some]
    by_cases h2 : n > 200
    · obtain ⟨v', s2, e2, w0, w1⟩ := next_ev h s1 (show 0 ≤ a + 1 by omega) (by omega)
      rw [if_pos h2]
      dsimp only
      rw [e2, Option.bind_some, if_neg (by omega)]
      dsimp only
      rw [wr (show -9223372036854775808 ≤ v * 256 by omega) (by omega), wr (show -9223372036854775808 ≤ v * 256 + v' by omega) (by omega)]
      exact ⟨_, _, _, rfl, Int.tmod_nonneg _ (by omega), .inl (Int.tmod_lt_of_pos _ (by omega)), by omega, by omega⟩
    · rw [if_neg h2, if_neg (by omega)]
      exact ⟨_, _, _, rfl, Int.tmod_nonneg _ v0, .inl (Int.tmod_lt_of_pos _ (by omega)), by dsimp only; omega, by dsimp only; omega⟩
end Go.Proofs.YtafjjbkkcedgnaaDoor.QFnHalfWindows
/-! Once in so many times, as it is drawn. -/
namespace Go.Proofs.YtafjjbkkcedgnaaDoor.QFnHalfWindows
open Go.RowKit Go.Proofs.YtafjjbkkcedgnaaDoorOwn Go.Proofs.YtafjjbkkcedgnaaDoor.PFnHalfWindows Go.Proofs.YtafjjbkkcedgnaaDoorW.PrintWords Go.Proofs.YtafjjbkkcedgnaaDoorW.PrintLast Go.Proofs.YtafjjbkkcedgnaaDoorW.PrintMore
set_option linter.unusedVariables false
set_option linter.unusedSimpArgs false
set_option maxRecDepth 100000
theorem one_ev {l : List Int} (h : U8 l) {a : Int} (s n : Int) (h0 : 0 ≤ a) (h1 : a < 4611686018427387900) : ∃ b a' s', spec_l1Cur_one.f l a s n = some (b, a', s') ∧ a ≤ a' ∧ a' ≤ a + 2 := by
  obtain ⟨v, a', s', e, _, _, h2, h3⟩ := pick_ev h s n h0 h1
  exact ⟨v == 0, a', s', by unfold spec_l1Cur_one.f; rw [e]; rfl, h2, h3⟩
end Go.Proofs.YtafjjbkkcedgnaaDoor.QFnHalfWindows
/-! Necklaces and cuts as they are drawn. -/
namespace Go.Proofs.YtafjjbkkcedgnaaDoor.QFnHalfWindows
open Go.RowKit Go.Proofs.YtafjjbkkcedgnaaDoorOwn Go.Proofs.YtafjjbkkcedgnaaDoor.PFnHalfWindows Go.Proofs.YtafjjbkkcedgnaaDoorW.PrintWords Go.Proofs.YtafjjbkkcedgnaaDoorW.PrintLast Go.Proofs.YtafjjbkkcedgnaaDoorW.PrintMore
set_option linter.unusedVariables false
set_option linter.unusedSimpArgs false
set_option maxRecDepth 100000
theorem bsize (x y : ByteArray) : (x ++ y).size = x.size + y.size := ByteArray.size_append
theorem esize (x : ByteArray) {i j : Nat} (h : i ≤ j) (hj : j ≤ x.size) : (x.extract i j).size = j - i := by
  rw [ByteArray.size_extract, Nat.min_eq_left hj]
/-- A bead is put in: one more. -/
theorem put_in {x y : ByteArray} {v w : Int} (hx : x.size ≤ 100) (hy : y.size = 4) (v0 : 0 ≤ v) (v1 : v ≤ (x.size : Int)) (w0 : 0 ≤ w) (w1 : w < 4) :
    (True → wrap64 (w + 1) = w + 1) ∧ (x.extract 0 (v : Int).toNat).size + (y.extract (w : Int).toNat ((w + 1) : Int).toNat).size ≤ 9223372036854775807 ∧
      ((x.extract 0 (v : Int).toNat) ++ (y.extract (w : Int).toNat ((w + 1) : Int).toNat)).size + (x.extract (v : Int).toNat x.size).size ≤ 9223372036854775807 ∧
      (((x.extract 0 (v : Int).toNat) ++ (y.extract (w : Int).toNat ((w + 1) : Int).toNat)) ++ (x.extract (v : Int).toNat x.size)).size = x.size + 1 := by
  have e1 := esize x (i := 0) (j := v.toNat) (by omega) (by omega)
  have e2 := esize y (i := w.toNat) (j := (w + 1).toNat) (by omega) (by omega)
  have e3 := esize x (i := v.toNat) (j := x.size) (by omega) (by omega)
  refine ⟨fun _ => wr (by omega) (by omega), by omega, ?_, ?_⟩
  · rw [bsize]; omega
  · rw [bsize, bsize]; omega
section
variable {l : List Int} (h : U8 l) (ev : Bool) (kk : Int) (hk : 1 ≤ kk) (hk4 : kk ≤ 4)
include h hk hk4
theorem sure_out : ∀ (d : Nat) (x : ByteArray) (a s : Int), x.size + 2 * d ≤ 90 → 0 ≤ a → a + 12 * (d : Int) ≤ 4611686018427379000 → ∃ r : ByteArray × Int × Int, Ev (fun f => spec_l1Cur_sureBeads.l0 f ev kk x (d : Int) l a s) r ∧ r.1.size ≤ 90 ∧ 0 ≤ r.2.1 ∧ r.2.1 ≤ a + 12 * (d : Int)
  | 0, x, a, s, hx, a0, a1 => ⟨(x, a, s), Ev.step (fun f => spec_l1Cur_sureBeads.l0.eq_2 ..) (ev_neg (by omega) (Ev.now _)), by dsimp only; omega, a0, by dsimp only; omega⟩
  | d + 1, x, a, s, hx, a0, a1 => by
    obtain ⟨w, a', s', e, w0, w1, b1, c1⟩ := pick_ev h s kk a0 (by omega)
    have ew : True → wrap64 (((d + 1 : Nat) : Int) - 1) = (d : Int) := fun _ => by rw [wr (by omega) (by omega)]; omega
    -- the draws of the rounds that follow are few
    have key : ∀ (d2 q : Nat) (x : ByteArray) (w a s : Int), q + d2 = 2 → x.size + d2 + 2 * d ≤ 90 → 0 ≤ w → w < kk → 0 ≤ a → a + 4 * (d2 : Int) + 12 * (d : Int) ≤ 4611686018427379000 →
        ∃ r : ByteArray × Int × Int, Ev (fun f => spec_l1Cur_sureBeads.l1 f ev kk x ((d + 1 : Nat) : Int) w (q : Int) l a s) r ∧ r.1.size ≤ 90 ∧ 0 ≤ r.2.1 ∧ r.2.1 ≤ a + 4 * (d2 : Int) + 12 * (d : Int) := by
      intro d2
      induction d2 with
      | zero =>
        intro q x w a s hq hx w0 w1 a0 a1
        obtain ⟨r, hr, h1, h2, h3⟩ := sure_out d x a s (by omega) a0 (by omega)
        refine ⟨r, Ev.step (fun f => spec_l1Cur_sureBeads.l1.eq_2 ..) (ev_neg (by omega) ?_), h1, h2, by omega⟩
        rw [ew trivial]
        exact hr
      | succ d2 ih =>
        intro q x w a s hq hx w0 w1 a0 a1
        have ez : True → wrap64 ((x.size : Int) + 1) = (x.size : Int) + 1 := fun _ => wr (by omega) (by omega)
        have eq1 : True → wrap64 ((q : Int) + 1) = ((q + 1 : Nat) : Int) := fun _ => by rw [wr (by omega) (by omega)]; omega
        cases hev : ev with
        | true =>
          obtain ⟨v, a', s', e, v0, v1, b1, c1⟩ := pick_ev h s ((x.size : Int) + 1) a0 (by omega)
          obtain ⟨g1, g2, g3, g4⟩ := put_in (x := x) (y := (⟨#[97, 98, 99, 100]⟩ : ByteArray)) (v := v) (w := w) (by omega) rfl v0 (by omega) w0 (by omega)
          obtain ⟨y, hy⟩ : ∃ y, y = (((x.extract 0 (v : Int).toNat) ++ ((⟨#[97, 98, 99, 100]⟩ : ByteArray).extract (w : Int).toNat ((w + 1) : Int).toNat)) ++ (x.extract (v : Int).toNat x.size)) := ⟨_, rfl⟩
          rw [← hy] at g4
          obtain ⟨r, hr, h1, h2, h3⟩ := ih (q + 1) y w a' s' (by omega) (by omega) w0 w1 (by omega) (by omega)
          rw [hev] at hr
          refine ⟨r, Ev.step (fun f => spec_l1Cur_sureBeads.l1.eq_2 ..) (ev_pos (by omega) (ev_pos rfl ?_)), h1, h2, by omega⟩
          rw [ez trivial]
          refine ev_bind0 e (ev_pos v0 (ev_pos (show v ≤ (x.size : Int) by omega) (ev_pos w0 ?_)))
          rw [g1 trivial]
          refine ev_pos (by omega) (ev_pos (by omega) (ev_pos g2 (ev_pos g3 ?_)))
          rw [eq1 trivial, ← hy]
          exact hr
        | false =>
          obtain ⟨w', a2, s2, e2, w0', w1', b2, c2⟩ := pick_ev h s kk a0 (by omega)
          obtain ⟨v, a', s', e, v0, v1, b1, c1⟩ := pick_ev h s2 ((x.size : Int) + 1) (show 0 ≤ a2 by omega) (by omega)
          obtain ⟨g1, g2, g3, g4⟩ := put_in (x := x) (y := (⟨#[97, 98, 99, 100]⟩ : ByteArray)) (v := v) (w := w') (by omega) rfl v0 (by omega) w0' (by omega)
          obtain ⟨y, hy⟩ : ∃ y, y = (((x.extract 0 (v : Int).toNat) ++ ((⟨#[97, 98, 99, 100]⟩ : ByteArray).extract (w' : Int).toNat ((w' + 1) : Int).toNat)) ++ (x.extract (v : Int).toNat x.size)) := ⟨_, rfl⟩
          rw [← hy] at g4
          obtain ⟨r, hr, h1, h2, h3⟩ := ih (q + 1) y w' a' s' (by omega) (by omega) w0' (by omega) (by omega) (by omega)
          rw [hev] at hr
          refine ⟨r, Ev.step (fun f => spec_l1Cur_sureBeads.l1.eq_2 ..) (ev_pos (by omega) (ev_neg (by decide) (ev_bind0 e2 ?_))), h1, h2, by omega⟩
          rw [ez trivial]
          refine ev_bind0 e (ev_pos v0 (ev_pos (show v ≤ (x.size : Int) by omega) (ev_pos w0' ?_)))
          dsimp only
          rw [g1 trivial]
          refine ev_pos (by omega) (ev_pos (by omega) (ev_pos g2 (ev_pos g3 ?_)))
          rw [eq1 trivial, ← hy]
          exact hr
    obtain ⟨r, hr, h1, h2, h3⟩ := key 2 0 x w a' s' rfl (by omega) w0 (by omega) (by omega) (by omega)
    exact ⟨r, Ev.step (fun f => spec_l1Cur_sureBeads.l0.eq_2 ..) (ev_pos (by omega) (ev_bind0 e hr)), h1, h2, by omega⟩
end
theorem sure_ev {l : List Int} (h : U8 l) (ev : Bool) (m : Nat) (hm : m ≤ 16) {a : Int} (s : Int) (a0 : 0 ≤ a) (a1 : a ≤ 4611686018427000000) : ∃ r : ByteArray × Int × Int, Ev (fun f => spec_l1Cur_sureBeads.f f l a s (m : Int) ev) r ∧ r.1.size ≤ 90 ∧ 0 ≤ r.2.1 ∧ r.2.1 ≤ a + 200 := by
  obtain ⟨v, b, t, e, v0, v1, b1, c1⟩ := pick_ev h s 4 a0 (by omega)
  have ek : True → wrap64 (1 + v) = 1 + v := fun _ => wr (by omega) (by omega)
  have et : Int.tdiv (m : Int) 2 = ((m / 2 : Nat) : Int) := by rw [Int.tdiv_eq_ediv_of_nonneg (by omega)]; omega
  have em : True → wrap64 ((wrap64 (Int.tdiv (m : Int) 2)) + 1) = ((m / 2 + 1 : Nat) : Int) := fun _ => by rw [et, wr (x := ((m / 2 : Nat) : Int)) (by omega) (by omega), wr (by omega) (by omega)]; omega
  obtain ⟨v2, b2, t2, e2, w0, w1, b3, c3⟩ := pick_ev h t ((m / 2 + 1 : Nat) : Int) (show 0 ≤ b by omega) (by omega)
  obtain ⟨d, ed⟩ := Int.eq_ofNat_of_zero_le w0
  subst ed
  obtain ⟨r, hr, h1, h2, h3⟩ := sure_out h ev (1 + v) (by omega) (by omega) d (⟨#[]⟩ : ByteArray) b2 t2 (by have : (⟨#[]⟩ : ByteArray).size = 0 := rfl; omega) (by omega) (by omega)
  refine ⟨r, ev_bind0 e ?_, h1, h2, by omega⟩
  rw [em trivial]
  refine ev_bind0 e2 ?_
  dsimp only
  rw [ek trivial]
  exact hr
theorem of_ev {l : List Int} (h : U8 l) {a : Int} (s : Int) (L : List ByteArray) (hL : 0 < L.length) (h0 : 0 ≤ a) (h1 : a < 4611686018427387900) : ∃ v a' s', spec_l1Cur_of.f l a s L = some (v, a', s') ∧ v ∈ L ∧ a ≤ a' ∧ a' ≤ a + 2 := by
  unfold spec_l1Cur_of.f
  obtain ⟨v, a', s', e, v0, v1, h2, h3⟩ := pick_ev h s (L.length : Int) h0 h1
  rw [e, Option.bind_some]
  dsimp only
  rw [if_pos v0, if_pos (by omega)]
  refine ⟨_, _, _, rfl, ?_, h2, h3⟩
  unfold rdOf
  rw [List.getD_eq_getElem?_getD, List.getElem?_eq_getElem (by omega)]
  exact List.getElem_mem _
theorem more_loop {l : List Int} (h : U8 l) : ∀ (d : Nat) (x : ByteArray) (a s : Int), x.size + d = 17 ∨ (17 ≤ x.size ∧ d = 0) → x.size ≤ 95 → 0 ≤ a → a + 4 * (d : Int) ≤ 4611686018427380000 → ∃ r : ByteArray × Int × Int, Ev (fun f => spec_l1Cur_beads.l0 f x l a s) r ∧ r.1.size ≤ 95 ∧ 0 ≤ r.2.1 ∧ r.2.1 ≤ a + 4 * (d : Int) + 4
  | d, x, a, s, hd, hx, a0, a1 => by
    obtain ⟨v, a', s', e, v0, v1, b1, c1⟩ := pick_ev h s 2 a0 (by omega)
    have ew : True → wrap64 (16 + v) = 16 + v := fun _ => wr (by omega) (by omega)
    by_cases hc : (x.size : Int) < 16 + v
    · match d, hd with
      | 0, hd => omega
      | d + 1, hd =>
        have e1 : (x ++ (⟨#[97]⟩ : ByteArray)).size = x.size + 1 := by rw [bsize]; rfl
        obtain ⟨r, hr, h1, h2, h3⟩ := more_loop h d (x ++ (⟨#[97]⟩ : ByteArray)) a' s' (by omega) (by omega) (by omega) (by omega)
        refine ⟨r, Ev.step (fun f => spec_l1Cur_beads.l0.eq_2 ..) (ev_bind0 e ?_), h1, h2, by omega⟩
        dsimp only
        rw [ew trivial]
        exact ev_pos hc (ev_pos (by omega) hr)
    · refine ⟨(x, a', s'), Ev.step (fun f => spec_l1Cur_beads.l0.eq_2 ..) (ev_bind0 e ?_), hx, by dsimp only; omega, by dsimp only; omega⟩
      dsimp only
      rw [ew trivial]
      exact ev_neg hc (Ev.now _)
theorem beads_ev {l : List Int} (h : U8 l) (m : Nat) (hm : m ≤ 16) : ∃ r : ByteArray × Int × Int, Ev (fun f => spec_l1Cur_beads.f f l 0 0 (m : Int)) r ∧ r.1.size ≤ 95 ∧ 0 ≤ r.2.1 ∧ r.2.1 ≤ 1000 := by
  obtain ⟨b, a1, s1, e1, b1, c1⟩ := one_ev h 0 5 (Int.le_refl 0) (by decide)
  obtain ⟨⟨x, a2, s2⟩, h2, hx, b2, c2⟩ := sure_ev h (!b) m hm s1 (show 0 ≤ a1 by omega) (by omega)
  dsimp only at hx b2 c2
  obtain ⟨v, a3, s3, e3, v0, v1, b3, c3⟩ := pick_ev h s2 20 b2 (by omega)
  have hr : ∀ r : ByteArray × Int × Int, Ev (fun f => if v = 0 then ((spec_l1Cur_of.f l a3 s3 (([(⟨#[101]⟩ : ByteArray), (⟨#[65]⟩ : ByteArray), (⟨#[48]⟩ : ByteArray), (⟨#[97]⟩ : ByteArray)] : List ByteArray))).bind fun bt145 => (if x.size + bt145.1.size ≤ 9223372036854775807 then (some (x ++ bt145.1, bt145.2.1, bt145.2.2)) else (none))) else (if v = 1 then (spec_l1Cur_beads.l0 f x l a3 s3) else (some (x, a3, s3)))) r → Ev (fun f => spec_l1Cur_beads.f f l 0 0 (m : Int)) r := fun r hr => ev_bind0 e1 (Ev.bind h2 (ev_bind0 e3 hr))
  by_cases h0 : v = 0
  · obtain ⟨y, a4, s4, e4, hy, b4, c4⟩ := of_ev h s3 [(⟨#[101]⟩ : ByteArray), (⟨#[65]⟩ : ByteArray), (⟨#[48]⟩ : ByteArray), (⟨#[97]⟩ : ByteArray)] (by decide) (show 0 ≤ a3 by omega) (by omega)
    have ys : y.size = 1 := by
      simp only [List.mem_cons, List.not_mem_nil, or_false] at hy
      rcases hy with e | e | e | e <;> rw [e] <;> rfl
    exact ⟨_, hr _ (ev_pos h0 (ev_bind0 e4 (ev_pos (by dsimp only; omega) (Ev.now _)))), by dsimp only; rw [bsize]; omega, by dsimp only; omega, by dsimp only; omega⟩
  · by_cases h1 : v = 1
    · obtain ⟨r, hr1, g1, g2, g3⟩ := more_loop h (17 - x.size) x a3 s3 (by omega) (by omega) (by omega) (by omega)
      exact ⟨r, hr _ (ev_neg h0 (ev_pos h1 hr1)), g1, g2, by omega⟩
    · exact ⟨_, hr _ (ev_neg h0 (ev_neg h1 (Ev.now _))), by dsimp only; omega, by dsimp only; omega, by dsimp only; omega⟩
end Go.Proofs.YtafjjbkkcedgnaaDoor.QFnHalfWindows
/-! Necklaces drawn further on; windows and rows of beads for three. -/
namespace Go.Proofs.YtafjjbkkcedgnaaDoor.QFnHalfWindows
open Go.RowKit Go.Proofs.YtafjjbkkcedgnaaDoorOwn Go.Proofs.YtafjjbkkcedgnaaDoor.PFnHalfWindows Go.Proofs.YtafjjbkkcedgnaaDoorW.PrintWords Go.Proofs.YtafjjbkkcedgnaaDoorW.PrintLast Go.Proofs.YtafjjbkkcedgnaaDoorW.PrintMore
set_option linter.unusedVariables false
set_option linter.unusedSimpArgs false
set_option maxRecDepth 100000
theorem beads_at {l : List Int} (h : U8 l) (m : Nat) (hm : m ≤ 16) {a : Int} (s : Int) (a0 : 0 ≤ a) (ah : a ≤ 1000) : ∃ r : ByteArray × Int × Int, Ev (fun f => spec_l1Cur_beads.f f l a s (m : Int)) r ∧ r.1.size ≤ 95 ∧ 0 ≤ r.2.1 ∧ r.2.1 ≤ 2000 := by
  obtain ⟨b, a1, s1, e1, b1, c1⟩ := one_ev h s 5 a0 (by omega)
  obtain ⟨⟨x, a2, s2⟩, h2, hx, b2, c2⟩ := sure_ev h (!b) m hm s1 (show 0 ≤ a1 by omega) (by omega)
  dsimp only at hx b2 c2
  obtain ⟨v, a3, s3, e3, v0, v1, b3, c3⟩ := pick_ev h s2 20 b2 (by omega)
  have hr : ∀ r : ByteArray × Int × Int, Ev (fun f => if v = 0 then ((spec_l1Cur_of.f l a3 s3 (([(⟨#[101]⟩ : ByteArray), (⟨#[65]⟩ : ByteArray), (⟨#[48]⟩ : ByteArray), (⟨#[97]⟩ : ByteArray)] : List ByteArray))).bind fun bt145 => (if x.size + bt145.1.size ≤ 9223372036854775807 then (some (x ++ bt145.1, bt145.2.1, bt145.2.2)) else (none))) else (if v = 1 then (spec_l1Cur_beads.l0 f x l a3 s3) else (some (x, a3, s3)))) r → Ev (fun f => spec_l1Cur_beads.f f l a s (m : Int)) r := fun r hr => ev_bind0 e1 (Ev.bind h2 (ev_bind0 e3 hr))
  by_cases h0 : v = 0
  · obtain ⟨y, a4, s4, e4, hy, b4, c4⟩ := of_ev h s3 [(⟨#[101]⟩ : ByteArray), (⟨#[65]⟩ : ByteArray), (⟨#[48]⟩ : ByteArray), (⟨#[97]⟩ : ByteArray)] (by decide) (show 0 ≤ a3 by omega) (by omega)
    have ys : y.size = 1 := by
      simp only [List.mem_cons, List.not_mem_nil, or_false] at hy
      rcases hy with e | e | e | e <;> rw [e] <;> rfl
    exact ⟨_, hr _ (ev_pos h0 (ev_bind0 e4 (ev_pos (by dsimp only; omega) (Ev.now _)))), by dsimp only; rw [bsize]; omega, by dsimp only; omega, by dsimp only; omega⟩
  · by_cases h1 : v = 1
    · obtain ⟨r, hr1, g1, g2, g3⟩ := more_loop h (17 - x.size) x a3 s3 (by omega) (by omega) (by omega) (by omega)
      exact ⟨r, hr _ (ev_neg h0 (ev_pos h1 hr1)), g1, g2, by omega⟩
    · exact ⟨_, hr _ (ev_neg h0 (ev_neg h1 (Ev.now _))), by dsimp only; omega, by dsimp only; omega, by dsimp only; omega⟩
/-! ### what the law draws -/
theorem half_out (x : ByteArray) (hx : x.size ≤ 95) : ∀ (d i : Nat) (y : ByteArray), i + d = x.size → y.size ≤ i → ∃ r, Ev (fun f => spec_DrawHalfWindow.l0 f x y (i : Int)) r
  | 0, i, y, hi, hy => ⟨y, Ev.step (fun f => spec_DrawHalfWindow.l0.eq_2 ..) (ev_neg (by omega) (Ev.now _))⟩
  | d + 1, i, y, hi, hy => by
    have ei : True → wrap64 ((i : Int) + 1) = ((i + 1 : Nat) : Int) := fun _ => by rw [wr (by omega) (by omega)]; omega
    have eb : (y ++ (⟨#[98]⟩ : ByteArray)).size = y.size + 1 := by rw [bsize]; rfl
    have ee := esize x (i := i) (j := i + 1) (by omega) (by omega)
    by_cases h1 : bt x (i : Int) = 99
    · obtain ⟨r, hr⟩ := half_out x hx d (i + 1) (y ++ (⟨#[98]⟩ : ByteArray)) (by omega) (by omega)
      refine ⟨r, Ev.step (fun f => spec_DrawHalfWindow.l0.eq_2 ..) (ev_pos (by omega) (ev_pos (by omega) (ev_pos h1 (ev_pos (by omega) ?_))))⟩
      rw [ei trivial]; exact hr
    · by_cases h2 : bt x (i : Int) = 100
      · obtain ⟨r, hr⟩ := half_out x hx d (i + 1) (y ++ (⟨#[98]⟩ : ByteArray)) (by omega) (by omega)
        refine ⟨r, Ev.step (fun f => spec_DrawHalfWindow.l0.eq_2 ..) (ev_pos (by omega) (ev_pos (by omega) (ev_neg h1 (ev_pos h2 (ev_pos (by omega) ?_)))))⟩
        rw [ei trivial]; exact hr
      · obtain ⟨z, hz⟩ : ∃ z, z = x.extract i (i + 1) := ⟨_, rfl⟩
        rw [← hz] at ee
        obtain ⟨r, hr⟩ := half_out x hx d (i + 1) (y ++ z) (by omega) (by rw [bsize]; omega)
        refine ⟨r, Ev.step (fun f => spec_DrawHalfWindow.l0.eq_2 ..) (ev_pos (by omega) (ev_pos (by omega) (ev_neg h1 (ev_neg h2 ?_))))⟩
        rw [ei trivial, Int.toNat_natCast, Int.toNat_natCast, ← hz]
        exact ev_pos (by omega) (ev_pos (by omega) (ev_pos (by omega) hr))
theorem drawHalf {l : List Int} (h : U8 l) : ∃ s, Ev (fun f => spec_DrawHalfWindow.f f l) s := by
  obtain ⟨⟨x, a, s⟩, hx, hs, a0, a1⟩ := beads_at h 16 (by decide) 0 (Int.le_refl 0) (by decide)
  dsimp only at hs a0 a1
  obtain ⟨b, a2, s2, e2, _⟩ := one_ev h s 2 a0 (by omega)
  cases b with
  | true => exact ⟨x, Ev.bind hx (ev_bind0 e2 (ev_pos rfl (Ev.now _)))⟩
  | false =>
    obtain ⟨r, hr⟩ := half_out x hs x.size 0 (⟨#[]⟩ : ByteArray) (by omega) (Nat.le_refl 0)
    exact ⟨r, Ev.bind hx (ev_bind0 e2 (ev_neg Bool.false_ne_true hr))⟩
theorem drawWin {l : List Int} (h : U8 l) : ∃ r, Ev (fun f => spec_DrawWindowCounts.f f l) r := by
  obtain ⟨⟨x, a, s⟩, hx, hs, a0, a1⟩ := beads_at h 14 (by decide) 0 (Int.le_refl 0) (by decide)
  dsimp only at hs a0 a1
  obtain ⟨v1, a2, s2, e1, _, _, b1, c1⟩ := pick_ev h s (wrap64 ((x.size : Int) + 1)) a0 (by omega)
  obtain ⟨v2, a3, s3, e2, _, _, b2, c2⟩ := pick_ev h s2 9 (show 0 ≤ a2 by omega) (by omega)
  obtain ⟨v3, a4, s4, e3, _, _, b3, c3⟩ := pick_ev h s3 (wrap64 ((x.size : Int) + 2)) (show 0 ≤ a3 by omega) (by omega)
  obtain ⟨v4, a5, s5, e4, _⟩ := pick_ev h s4 9 (show 0 ≤ a4 by omega) (by omega)
  exact ⟨_, Ev.bind hx (ev_bind0 e1 (ev_bind0 e2 (ev_bind0 e3 (ev_bind0 e4 (Ev.now _)))))⟩
theorem three_in {l : List Int} (h : U8 l) : ∀ (d : Nat) (x : ByteArray) (a s : Int), x.size + 3 * d ≤ 90 → 0 ≤ a → a + 12 * (d : Int) ≤ 3000 → ∃ r, Ev (fun f => spec_DrawFewestForThree.l0 f x (d : Int) l a s) r
  | 0, x, a, s, hx, a0, a1 => ⟨x, Ev.step (fun f => spec_DrawFewestForThree.l0.eq_2 ..) (ev_neg (by omega) (Ev.now _))⟩
  | d + 1, x, a, s, hx, a0, a1 => by
    obtain ⟨w, a', s', e, w0, w1, b1, c1⟩ := pick_ev h s 4 a0 (by omega)
    have ew : True → wrap64 (((d + 1 : Nat) : Int) - 1) = (d : Int) := fun _ => by rw [wr (by omega) (by omega)]; omega
    have key : ∀ (d2 q : Nat) (x : ByteArray) (w a s : Int), q + d2 = 3 → x.size + d2 + 3 * d ≤ 90 → 0 ≤ w → w < 4 → 0 ≤ a → a + 2 * (d2 : Int) + 12 * (d : Int) ≤ 3000 →
        ∃ r, Ev (fun f => spec_DrawFewestForThree.l1 f x ((d + 1 : Nat) : Int) w (q : Int) l a s) r := by
      intro d2
      induction d2 with
      | zero =>
        intro q x w a s hq hx w0 w1 a0 a1
        obtain ⟨r, hr⟩ := three_in h d x a s (by omega) a0 (by omega)
        refine ⟨r, Ev.step (fun f => spec_DrawFewestForThree.l1.eq_2 ..) (ev_neg (by omega) ?_)⟩
        rw [ew trivial]
        exact hr
      | succ d2 ih =>
        intro q x w a s hq hx w0 w1 a0 a1
        have ez : True → wrap64 ((x.size : Int) + 1) = (x.size : Int) + 1 := fun _ => wr (by omega) (by omega)
        have eq1 : True → wrap64 ((q : Int) + 1) = ((q + 1 : Nat) : Int) := fun _ => by rw [wr (by omega) (by omega)]; omega
        obtain ⟨v, a', s', e, v0, v1, b1, c1⟩ := pick_ev h s ((x.size : Int) + 1) a0 (by omega)
        obtain ⟨g1, g2, g3, g4⟩ := put_in (x := x) (y := (⟨#[97, 98, 99, 100]⟩ : ByteArray)) (v := v) (w := w) (by omega) rfl v0 (by omega) w0 (by omega)
        obtain ⟨y, hy⟩ : ∃ y, y = (((x.extract 0 (v : Int).toNat) ++ ((⟨#[97, 98, 99, 100]⟩ : ByteArray).extract (w : Int).toNat ((w + 1) : Int).toNat)) ++ (x.extract (v : Int).toNat x.size)) := ⟨_, rfl⟩
        rw [← hy] at g4
        obtain ⟨r, hr⟩ := ih (q + 1) y w a' s' (by omega) (by omega) w0 w1 (by omega) (by omega)
        refine ⟨r, Ev.step (fun f => spec_DrawFewestForThree.l1.eq_2 ..) (ev_pos (by omega) ?_)⟩
        rw [ez trivial]
        refine ev_bind0 e (ev_pos v0 (ev_pos (show v ≤ (x.size : Int) by omega) (ev_pos w0 ?_)))
        rw [g1 trivial]
        refine ev_pos (by omega) (ev_pos (by omega) (ev_pos g2 (ev_pos g3 ?_)))
        rw [eq1 trivial, ← hy]
        exact hr
    obtain ⟨r, hr⟩ := key 3 0 x w a' s' rfl (by omega) w0 (by omega) (by omega) (by omega)
    exact ⟨r, Ev.step (fun f => spec_DrawFewestForThree.l0.eq_2 ..) (ev_pos (by omega) (ev_bind0 e hr))⟩
theorem drawThree {l : List Int} (h : U8 l) : ∃ s, Ev (fun f => spec_DrawFewestForThree.f f l) s := by
  obtain ⟨b, a1, s1, e1, b1, c1⟩ := one_ev h 0 6 (Int.le_refl 0) (by decide)
  cases b with
  | true =>
    obtain ⟨⟨x, a, s⟩, hx, _⟩ := beads_at h 8 (by decide) s1 (show 0 ≤ a1 by omega) (by omega)
    exact ⟨x, ev_bind0 e1 (ev_pos rfl (Ev.bind hx (Ev.now _)))⟩
  | false =>
    obtain ⟨v, a2, s2, e2, v0, v1, b2, c2⟩ := pick_ev h s1 4 (show 0 ≤ a1 by omega) (by omega)
    obtain ⟨v', ev⟩ := Int.eq_ofNat_of_zero_le v0
    subst ev
    obtain ⟨r, hr⟩ := three_in h v' (⟨#[]⟩ : ByteArray) a2 s2 (by show 0 + 3 * v' ≤ 90; omega) (by omega) (by omega)
    exact ⟨r, ev_bind0 e1 (ev_neg Bool.false_ne_true (ev_bind0 e2 hr))⟩
end Go.Proofs.YtafjjbkkcedgnaaDoor.QFnHalfWindows
/-! Necklaces: which texts are necklaces; the program's test and the reference's. -/
namespace Go.Proofs.YtafjjbkkcedgnaaDoor.QFnHalfWindows
open Go.RowKit Go.Proofs.YtafjjbkkcedgnaaDoor.PFnHalfWindows Go.Proofs.YtafjjbkkcedgnaaDoorW.PrintWords Go.Proofs.YtafjjbkkcedgnaaDoorW.PrintLast Go.Proofs.YtafjjbkkcedgnaaDoorW.PrintMore
set_option linter.unusedVariables false
set_option linter.unusedSimpArgs false
def isBead (b : UInt8) : Bool := decide (97 ≤ b.toNat ∧ b.toNat ≤ 100)
def beads (s : ByteArray) : Bool := s.data.toList.all isBead
/-- The texts that are necklaces. -/
def neckl (s : ByteArray) : Bool := decide (s.size ≤ 16) && beads s
theorem size_list (s : ByteArray) : s.data.toList.length = s.size := Array.length_toList
theorem bt_get {s : ByteArray} {i : Nat} {b : UInt8} (h : s.data.toList[i]? = some b) : bt s (i : Int) = (b.toNat : Int) := by
  have hl := (List.getElem?_eq_some_iff.1 h).1
  have hs : i < s.size := by rw [← size_list]; exact hl
  unfold bt
  have e : ((i : Int).toNat) = i := by omega
  rw [dif_pos (by rw [e]; exact hs)]
  have : s[((i : Int).toNat)]'(by rw [e]; exact hs) = b := by
    have h2 := (List.getElem?_eq_some_iff.1 h).2
    simp only [e]
    rw [← h2]
    rfl
  rw [this]
theorem get_lt {s : ByteArray} {i : Nat} (h : i < s.size) : ∃ b, s.data.toList[i]? = some b := ⟨_, List.getElem?_eq_getElem (by rw [size_list]; exact h)⟩
theorem all_drop {p : UInt8 → Bool} {l : List UInt8} {i : Nat} {b : UInt8} (h : l[i]? = some b) : (l.drop i).all p = (p b && (l.drop (i + 1)).all p) := by
  have hl := (List.getElem?_eq_some_iff.1 h).1
  rw [List.drop_eq_getElem_cons hl, List.all_cons, (List.getElem?_eq_some_iff.1 h).2]
theorem good_loop (s : ByteArray) (hs : s.size ≤ 16) : ∀ d i : Nat, i + d = s.size → Ev (fun k => spec_nlGood.l0 k s (i : Int)) ((s.data.toList.drop i).all isBead)
  | 0, i, h => by
    refine Ev.step (fun f => spec_nlGood.l0.eq_2 ..) (ev_neg (by omega) (ev_eq (Ev.now _) ?_))
    rw [List.drop_eq_nil_of_le (by rw [size_list]; omega)]
    rfl
  | d + 1, i, h => by
    obtain ⟨b, hb⟩ := get_lt (s := s) (i := i) (by omega)
    have hl := b.toNat_lt
    refine Ev.step (fun f => spec_nlGood.l0.eq_2 ..) (ev_pos (by omega) (ev_pos (by omega) ?_))
    rw [bt_get hb, all_drop hb]
    by_cases h1 : (b.toNat : Int) < 97
    · refine ev_pos h1 (ev_eq (Ev.now _) ?_)
      rw [show isBead b = false by unfold isBead; exact decide_eq_false (by omega)]; rfl
    · refine ev_neg h1 ?_
      by_cases h2 : ((b.toNat : Int) - 97) % 256 ≥ 4
      · refine ev_pos h2 (ev_eq (Ev.now _) ?_)
        rw [show isBead b = false by unfold isBead; exact decide_eq_false (by omega)]; rfl
      · refine ev_neg h2 ?_
        rw [show isBead b = true by unfold isBead; exact decide_eq_true (by omega), wr (by omega) (by omega), Bool.true_and]
        exact good_loop s hs d (i + 1) (by omega)
theorem nlGood_ev (s : ByteArray) : Ev (fun k => spec_nlGood.f k s) (neckl s) := by
  unfold spec_nlGood.f neckl
  by_cases h : s.size ≤ 16
  · refine ev_neg (by omega) ?_
    rw [decide_eq_true h, Bool.true_and]
    exact good_loop s h s.size 0 (by omega)
  · refine ev_pos (by omega) ?_
    rw [decide_eq_false h, Bool.false_and]
    exact Ev.now _
theorem mem_dropWhile {p : UInt8 → Bool} {x : UInt8} (hx : p x = false) : ∀ {l : List UInt8}, x ∈ l → x ∈ l.dropWhile p
  | [], h => h
  | y :: l, h => by
    rw [List.dropWhile_cons]
    split
    · rename_i hy
      refine mem_dropWhile hx ?_
      rcases List.mem_cons.1 h with rfl | h
      · rw [hx] at hy; cases hy
      · exact h
    · exact h
theorem dropWhile_all {p : UInt8 → Bool} : ∀ {l : List UInt8}, (∀ x ∈ l, p x = true) → l.dropWhile p = []
  | [], _ => rfl
  | y :: l, h => by rw [List.dropWhile_cons, if_pos (h y (by simp))]; exact dropWhile_all (fun x hx => h x (by simp [hx]))
theorem trimS_nil (l cs : List UInt8) : (Go.Lib.trimS l cs == []) = l.all (cs.contains ·) := by
  cases h : l.all (cs.contains ·) with
  | true =>
    have h' := List.all_eq_true.1 h
    have e : Go.Lib.trimRightS l cs = [] := by
      unfold Go.Lib.trimRightS
      rw [dropWhile_all (fun x hx => h' x (by simpa using hx))]; rfl
    unfold Go.Lib.trimS
    rw [e]; rfl
  | false =>
    obtain ⟨x, hx, hp⟩ := List.all_eq_false.1 h
    have hp : cs.contains x = false := by simpa using hp
    have hr : x ∈ Go.Lib.trimRightS l cs := by
      unfold Go.Lib.trimRightS
      exact List.mem_reverse.2 (mem_dropWhile hp (List.mem_reverse.2 hx))
    have ht : x ∈ Go.Lib.trimS l cs := mem_dropWhile hp hr
    cases e : Go.Lib.trimS l cs with
    | nil => rw [e] at ht; cases ht
    | cons a b => rfl
theorem abcd (b : UInt8) : ([97, 98, 99, 100] : List UInt8).contains b = isBead b := by
  unfold isBead
  have h : b.toNat < 256 := b.toNat_lt
  by_cases hb : 97 ≤ b.toNat ∧ b.toNat ≤ 100
  · rw [decide_eq_true hb]
    have : b = 97 ∨ b = 98 ∨ b = 99 ∨ b = 100 := by
      have : b.toNat = 97 ∨ b.toNat = 98 ∨ b.toNat = 99 ∨ b.toNat = 100 := by omega
      rcases this with e | e | e | e
      · exact .inl (UInt8.toNat_inj.1 e)
      · exact .inr (.inl (UInt8.toNat_inj.1 e))
      · exact .inr (.inr (.inl (UInt8.toNat_inj.1 e)))
      · exact .inr (.inr (.inr (UInt8.toNat_inj.1 e)))
    rcases this with rfl | rfl | rfl | rfl <;> rfl
  · rw [decide_eq_false hb]
    cases e : ([97, 98, 99, 100] : List UInt8).contains b with
    | false => rfl
    | true =>
      have := List.contains_iff_mem.1 e
      simp at this
      rcases this with rfl | rfl | rfl | rfl <;> exact absurd (by decide) hb
theorem isNecklace_ev (s : ByteArray) : impl_IsNecklace.f s = some (neckl s) := by
  unfold impl_IsNecklace.f neckl
  by_cases h : s.size ≤ 16
  · rw [if_pos (by omega), decide_eq_true h, Bool.true_and]
    unfold strings_Trim.f
    rw [if_pos (by rw [decide_eq_true (show s.size ≤ 9223372036854775807 by omega)]; decide +kernel), Option.bind_some]
    have e : (⟨(Go.Lib.trimS s.data.toList (⟨#[97, 98, 99, 100]⟩ : ByteArray).data.toList).toArray⟩ : ByteArray).toList = Go.Lib.trimS s.data.toList [97, 98, 99, 100] := by
      rw [ByteArray.toList_eq]
    rw [e, trimS_nil]
    unfold beads
    exact congrArg some (congrArg (fun p => s.data.toList.all p) (funext abcd))
  · rw [if_neg (by omega), decide_eq_false h, Bool.false_and]
end Go.Proofs.YtafjjbkkcedgnaaDoor.QFnHalfWindows
/-! Necklaces: the numbers of beads of the four kinds. -/
namespace Go.Proofs.YtafjjbkkcedgnaaDoor.QFnHalfWindows
open Go.RowKit Go.Proofs.YtafjjbkkcedgnaaDoor.PFnHalfWindows Go.Proofs.YtafjjbkkcedgnaaDoorW.PrintWords Go.Proofs.YtafjjbkkcedgnaaDoorW.PrintLast Go.Proofs.YtafjjbkkcedgnaaDoorW.PrintMore
set_option linter.unusedVariables false
set_option linter.unusedSimpArgs false
set_option maxRecDepth 100000
def cn (v : Nat) (l : List UInt8) : Int := ((l.countP fun b => decide (b.toNat = v) : Nat) : Int)
/-- The numbers of the four kinds. -/
def cntL (l : List UInt8) : List Int := [cn 97 l, cn 98 l, cn 99 l, cn 100 l]
theorem cn_le (v : Nat) (l : List UInt8) : 0 ≤ cn v l ∧ cn v l ≤ l.length := by
  unfold cn
  have := List.countP_le_length (p := fun b : UInt8 => decide (b.toNat = v)) (l := l)
  omega
theorem cn_snoc (v : Nat) (l : List UInt8) (b : UInt8) : cn v (l ++ [b]) = cn v l + (if b.toNat = v then 1 else 0) := by
  unfold cn
  rw [List.countP_append, List.countP_singleton]
  by_cases h : b.toNat = v <;> simp [h]
theorem kind_cases {b : UInt8} (hb : isBead b = true) : b.toNat = 97 ∨ b.toNat = 98 ∨ b.toNat = 99 ∨ b.toNat = 100 := by
  unfold isBead at hb
  have := of_decide_eq_true hb
  omega
theorem cnt_step (l : List UInt8) (b : UInt8) (hb : isBead b = true) (hl : l.length ≤ 1000) :
    (cntL l).set ((((b.toNat : Int) - 97) % 256 : Int).toNat) (wrap64 (rd (cntL l) (((b.toNat : Int) - 97) % 256) + 1)) = cntL (l ++ [b]) := by
  have h1 := cn_le 97 l
  have h2 := cn_le 98 l
  have h3 := cn_le 99 l
  have h4 := cn_le 100 l
  unfold cntL
  rw [cn_snoc, cn_snoc, cn_snoc, cn_snoc]
  rcases kind_cases hb with h | h | h | h
  · have e : (((b.toNat : Int) - 97) % 256) = 0 := by omega
    rw [e, show rd [cn 97 l, cn 98 l, cn 99 l, cn 100 l] 0 = cn 97 l from rfl, wr (by omega) (by omega), h]
    simp
  · have e : (((b.toNat : Int) - 97) % 256) = 1 := by omega
    rw [e, show rd [cn 97 l, cn 98 l, cn 99 l, cn 100 l] 1 = cn 98 l from rfl, wr (by omega) (by omega), h]
    simp
  · have e : (((b.toNat : Int) - 97) % 256) = 2 := by omega
    rw [e, show rd [cn 97 l, cn 98 l, cn 99 l, cn 100 l] 2 = cn 99 l from rfl, wr (by omega) (by omega), h]
    simp
  · have e : (((b.toNat : Int) - 97) % 256) = 3 := by omega
    rw [e, show rd [cn 97 l, cn 98 l, cn 99 l, cn 100 l] 3 = cn 100 l from rfl, wr (by omega) (by omega), h]
    simp
theorem cntL_len (l : List UInt8) : (cntL l).length = 4 := rfl
theorem cntL_le (l : List UInt8) (i : Nat) : 0 ≤ rd (cntL l) i ∧ rd (cntL l) i ≤ l.length := by
  have h1 := cn_le 97 l
  have h2 := cn_le 98 l
  have h3 := cn_le 99 l
  have h4 := cn_le 100 l
  rw [rd_nat]
  match i with
  | 0 => exact h1
  | 1 => exact h2
  | 2 => exact h3
  | 3 => exact h4
  | n + 4 => simp [cntL]
theorem kind_range {b : UInt8} (hb : isBead b = true) : 0 ≤ ((b.toNat : Int) - 97) % 256 ∧ ((b.toNat : Int) - 97) % 256 < 4 := by
  rcases kind_cases hb with h | h | h | h <;> omega
theorem bead_at {s : ByteArray} (h : beads s = true) {i : Nat} {b : UInt8} (hb : s.data.toList[i]? = some b) : isBead b = true :=
  List.all_eq_true.1 h b (List.mem_of_getElem? hb)
theorem take_snoc {l : List UInt8} {i : Nat} {b : UInt8} (h : l[i]? = some b) : l.take i ++ [b] = l.take (i + 1) := by
  rw [List.take_add_one, h]; rfl
theorem neckl_size {s : ByteArray} (h : neckl s = true) : s.size ≤ 16 := of_decide_eq_true (Bool.and_eq_true_iff.1 h).1
theorem neckl_beads {s : ByteArray} (h : neckl s = true) : beads s = true := (Bool.and_eq_true_iff.1 h).2
theorem cntL_nil : (List.replicate 4 0 : List Int) = cntL [] := rfl
end Go.Proofs.YtafjjbkkcedgnaaDoor.QFnHalfWindows
/-! Necklaces: the program's counts. -/
namespace Go.Proofs.YtafjjbkkcedgnaaDoor.QFnHalfWindows
open Go.RowKit Go.Proofs.YtafjjbkkcedgnaaDoor.PFnHalfWindows Go.Proofs.YtafjjbkkcedgnaaDoorW.PrintWords Go.Proofs.YtafjjbkkcedgnaaDoorW.PrintLast Go.Proofs.YtafjjbkkcedgnaaDoorW.PrintMore
set_option linter.unusedVariables false
set_option linter.unusedSimpArgs false
set_option maxRecDepth 100000
theorem counts_loop (s : ByteArray) (hb : beads s = true) (hs : s.size ≤ 1000) : ∀ d i : Nat, i + d = s.size → Ev (fun k => impl_counts.l0 k s (cntL (s.data.toList.take i)) (s.size : Int) (i : Int)) (cntL s.data.toList)
  | 0, i, h => by
    refine Ev.step (fun f => impl_counts.l0.eq_2 ..) (ev_neg (by omega) (ev_eq (Ev.now _) ?_))
    rw [List.take_of_length_le (by rw [size_list]; omega)]
  | d + 1, i, h => by
    obtain ⟨b, hg⟩ := get_lt (s := s) (i := i) (by omega)
    have hk := kind_range (bead_at hb hg)
    refine Ev.step (fun f => impl_counts.l0.eq_2 ..) (ev_pos (by omega) (ev_pos (by omega) (ev_pos (by omega) ?_)))
    rw [bt_get hg]
    refine ev_pos hk.1 (ev_pos (by rw [cntL_len]; exact hk.2) ?_)
    rw [cnt_step _ _ (bead_at hb hg) (by rw [List.length_take]; omega), take_snoc hg, wr (by omega) (by omega)]
    exact counts_loop s hb hs d (i + 1) (by omega)
theorem counts_ev (s : ByteArray) (hb : beads s = true) (hs : s.size ≤ 1000) : Ev (fun k => impl_counts.f k s) (cntL s.data.toList) :=
  ev_pos (by decide) (counts_loop s hb hs s.size 0 (by omega))
end Go.Proofs.YtafjjbkkcedgnaaDoor.QFnHalfWindows
/-! Necklaces: the reference's counts. -/
namespace Go.Proofs.YtafjjbkkcedgnaaDoor.QFnHalfWindows
open Go.RowKit Go.Proofs.YtafjjbkkcedgnaaDoor.PFnHalfWindows Go.Proofs.YtafjjbkkcedgnaaDoorW.PrintWords Go.Proofs.YtafjjbkkcedgnaaDoorW.PrintLast Go.Proofs.YtafjjbkkcedgnaaDoorW.PrintMore
set_option linter.unusedVariables false
set_option linter.unusedSimpArgs false
set_option maxRecDepth 100000
theorem nlCounts_loop (s : ByteArray) (hb : beads s = true) (hs : s.size ≤ 1000) : ∀ d i : Nat, i + d = s.size → Ev (fun k => spec_nlCounts.l0 k s (cntL (s.data.toList.take i)) (i : Int)) (cntL s.data.toList)
  | 0, i, h => by
    refine Ev.step (fun f => spec_nlCounts.l0.eq_2 ..) (ev_neg (by omega) (ev_eq (Ev.now _) ?_))
    rw [List.take_of_length_le (by rw [size_list]; omega)]
  | d + 1, i, h => by
    obtain ⟨b, hg⟩ := get_lt (s := s) (i := i) (by omega)
    have hk := kind_range (bead_at hb hg)
    refine Ev.step (fun f => spec_nlCounts.l0.eq_2 ..) (ev_pos (by omega) (ev_pos (by omega) ?_))
    rw [bt_get hg]
    refine ev_pos hk.1 (ev_pos (by rw [cntL_len]; exact hk.2) ?_)
    rw [cnt_step _ _ (bead_at hb hg) (by rw [List.length_take]; omega), take_snoc hg, wr (by omega) (by omega)]
    exact nlCounts_loop s hb hs d (i + 1) (by omega)
theorem nlCounts_ev (s : ByteArray) (hb : beads s = true) (hs : s.size ≤ 1000) : Ev (fun k => spec_nlCounts.f k s) (cntL s.data.toList) :=
  ev_pos (by decide) (nlCounts_loop s hb hs s.size 0 (by omega))
end Go.Proofs.YtafjjbkkcedgnaaDoor.QFnHalfWindows
/-! Necklaces: how many kinds. -/
namespace Go.Proofs.YtafjjbkkcedgnaaDoor.QFnHalfWindows
open Go.RowKit Go.Proofs.YtafjjbkkcedgnaaDoor.PFnHalfWindows Go.Proofs.YtafjjbkkcedgnaaDoorW.PrintWords Go.Proofs.YtafjjbkkcedgnaaDoorW.PrintLast Go.Proofs.YtafjjbkkcedgnaaDoorW.PrintMore
set_option linter.unusedVariables false
set_option linter.unusedSimpArgs false
set_option maxRecDepth 100000
/-- How many of some numbers are above 0. -/
def kn (l : List Int) : Int := ((l.countP fun x => decide (0 < x) : Nat) : Int)
theorem kn_le (l : List Int) : 0 ≤ kn l ∧ kn l ≤ l.length := by
  unfold kn
  have := List.countP_le_length (p := fun x : Int => decide (0 < x)) (l := l)
  omega
theorem kn_snoc (l : List Int) (x : Int) : kn (l ++ [x]) = kn l + (if x > 0 then 1 else 0) := by
  unfold kn
  rw [List.countP_append, List.countP_singleton]
  by_cases h : 0 < x <;> simp [h]
theorem take_snocI {l : List Int} {i : Nat} (h : i < l.length) : l.take i ++ [rd l (i : Int)] = l.take (i + 1) := by
  rw [List.take_add_one, rd_nat, List.getD_eq_getElem?_getD, List.getElem?_eq_getElem h]; rfl
theorem nlKinds_loop (l : List Int) (hs : l.length ≤ 1000) : ∀ d i : Nat, i + d = l.length → Ev (fun k => spec_nlKinds.l0 k (kn (l.take i)) l (l.length : Int) (i : Int)) (kn l)
  | 0, i, h => by
    refine Ev.step (fun f => spec_nlKinds.l0.eq_2 ..) (ev_neg (by omega) (ev_eq (Ev.now _) ?_))
    rw [List.take_of_length_le (by omega)]
  | d + 1, i, h => by
    have hn := kn_snoc (l.take i) (rd l (i : Int))
    rw [take_snocI (by omega)] at hn
    have hk := kn_le (l.take i)
    have hlt : (l.take i).length ≤ 1000 := by rw [List.length_take]; omega
    refine Ev.step (fun f => spec_nlKinds.l0.eq_2 ..) (ev_pos (by omega) (ev_pos (by omega) (ev_pos (by omega) ?_)))
    rw [wr (show -9223372036854775808 ≤ (i : Int) + 1 by omega) (by omega)]
    have ih := nlKinds_loop l hs d (i + 1) (by omega)
    by_cases hc : rd l (i : Int) > 0
    · rw [if_pos hc] at hn
      refine ev_pos hc ?_
      rw [wr (by omega) (by omega), ← hn]
      exact ih
    · rw [if_neg hc] at hn
      refine ev_neg hc ?_
      rw [hn, Int.add_zero] at ih
      exact ih
theorem nlKinds_ev (s : ByteArray) (hb : beads s = true) (hs : s.size ≤ 1000) : Ev (fun k => spec_nlKinds.f k s) (kn (cntL s.data.toList)) := by
  refine Ev.bind (nlCounts_ev s hb hs) ?_
  exact nlKinds_loop (cntL s.data.toList) (by rw [cntL_len]; omega) 4 0 (by rw [cntL_len])
theorem kn_filter (l : List Int) : ((l.filter fun x => !decide (0 < x)).length : Int) = (l.length : Int) - kn l := by
  unfold kn
  induction l with
  | nil => rfl
  | cons x l ih =>
    rw [List.countP_cons, List.filter_cons]
    by_cases h : 0 < x <;> simp [h] <;> omega
theorem kinds_ev (s : ByteArray) (hb : beads s = true) (hs : s.size ≤ 1000) : Ev (fun k => impl_kinds.f k s) (kn (cntL s.data.toList)) := by
  refine Ev.bind (counts_ev s hb hs) (ev_pos (by rw [cntL_len]; omega) (ev_eq (Ev.now _) ?_))
  have hk := kn_le (cntL s.data.toList)
  rw [kn_filter, cntL_len] at *
  rw [wr (by omega) (by omega)]
  omega
end Go.Proofs.YtafjjbkkcedgnaaDoor.QFnHalfWindows
/-! Necklaces: windows. -/
namespace Go.Proofs.YtafjjbkkcedgnaaDoor.QFnHalfWindows
open Go.RowKit Go.Proofs.YtafjjbkkcedgnaaDoor.PFnHalfWindows Go.Proofs.YtafjjbkkcedgnaaDoorW.PrintWords Go.Proofs.YtafjjbkkcedgnaaDoorW.PrintLast Go.Proofs.YtafjjbkkcedgnaaDoorW.PrintMore
set_option linter.unusedVariables false
set_option linter.unusedSimpArgs false
set_option maxRecDepth 100000
/-- The beads of a window. -/
def winL (s : ByteArray) (a n : Nat) : List UInt8 := ((s.data.toList ++ s.data.toList).drop a).take n
theorem winL_get (s : ByteArray) (a i : Nat) (hs : 0 < s.size) (ha : a < s.size) (hi : i < s.size) : ∃ b, ((s.data.toList ++ s.data.toList).drop a)[i]? = some b ∧ s.data.toList[(a + i) % s.size]? = some b := by
  have hl := size_list s
  rw [List.getElem?_drop]
  rcases Nat.lt_or_ge (a + i) s.size with h | h
  · rw [Nat.mod_eq_of_lt h, List.getElem?_append_left (by omega)]
    exact ⟨_, List.getElem?_eq_getElem (by omega), List.getElem?_eq_getElem (by omega)⟩
  · have e : (a + i) % s.size = a + i - s.size := by rw [Nat.mod_eq_sub_mod h, Nat.mod_eq_of_lt (by omega)]
    rw [e, List.getElem?_append_right (by omega), hl]
    exact ⟨_, List.getElem?_eq_getElem (by omega), List.getElem?_eq_getElem (by omega)⟩
theorem nlWindow_loop (s : ByteArray) (hb : beads s = true) (hs0 : 0 < s.size) (hs : s.size ≤ 1000) (a n : Nat) (ha : a < s.size) (hn : n ≤ s.size) :
    ∀ d i : Nat, i + d = n → Ev (fun k => spec_nlWindow.l0 k s (a : Int) (n : Int) (cntL (((s.data.toList ++ s.data.toList).drop a).take i)) (i : Int)) (cntL (winL s a n))
  | 0, i, h => by
    refine Ev.step (fun f => spec_nlWindow.l0.eq_2 ..) (ev_neg (by omega) (ev_eq (Ev.now _) ?_))
    rw [show i = n by omega]; rfl
  | d + 1, i, h => by
    obtain ⟨b, hg1, hg2⟩ := winL_get s a i hs0 ha (by omega)
    have hk := kind_range (bead_at hb hg2)
    have hw : wrap64 ((a : Int) + (i : Int)) = ((a + i : Nat) : Int) := by rw [wr (by omega) (by omega)]; omega
    have ht : Int.tmod ((a + i : Nat) : Int) (s.size : Int) = (((a + i) % s.size : Nat) : Int) := by rw [Int.tmod_eq_emod_of_nonneg (by omega)]; omega
    have hlt : (a + i) % s.size < s.size := Nat.mod_lt _ hs0
    refine Ev.step (fun f => spec_nlWindow.l0.eq_2 ..) (ev_pos (by omega) (ev_neg (by omega) ?_))
    rw [hw, ht]
    refine ev_pos (by omega) (ev_pos (by omega) ?_)
    rw [bt_get hg2]
    refine ev_pos hk.1 (ev_pos (by rw [cntL_len]; exact hk.2) ?_)
    rw [cnt_step _ _ (bead_at hb hg2) (by rw [List.length_take, List.length_drop, List.length_append, size_list]; omega), take_snoc hg1, wr (show -9223372036854775808 ≤ (i : Int) + 1 by omega) (by omega)]
    exact nlWindow_loop s hb hs0 hs a n ha hn d (i + 1) (by omega)
theorem nlWindow_ev (s : ByteArray) (hb : beads s = true) (hs0 : 0 < s.size) (hs : s.size ≤ 1000) (a n : Nat) (ha : a < s.size) (hn : n ≤ s.size) : Ev (fun k => spec_nlWindow.f k s (a : Int) (n : Int)) (cntL (winL s a n)) :=
  ev_pos (by decide) (nlWindow_loop s hb hs0 hs a n ha hn n 0 (by omega))
theorem window_data (s : ByteArray) (a n : Nat) : ((s ++ s).extract a (a + n)).data.toList = winL s a n := by
  unfold winL
  rw [ByteArray.data_extract, Array.toList_extract, ByteArray.data_append, Array.toList_append, List.extract_eq_take_drop]
  congr 1
  omega
theorem window_ev (s : ByteArray) (hs : s.size ≤ 1000) (a n : Nat) (ha : a < s.size) (hn : n ≤ s.size) : ∃ t, impl_window.f s (a : Int) (n : Int) = some t ∧ t.data.toList = winL s a n := by
  have hsz : (s ++ s).size = s.size + s.size := ByteArray.size_append
  refine ⟨(s ++ s).extract a (a + n), ?_, window_data s a n⟩
  have hw : wrap64 ((a : Int) + (n : Int)) = ((a + n : Nat) : Int) := by rw [wr (by omega) (by omega)]; omega
  unfold impl_window.f
  rw [hw, if_pos]
  · rfl
  · simp only [Bool.and_eq_true, decide_eq_true_eq]
    refine ⟨⟨⟨by omega, by omega⟩, by omega⟩, ?_⟩
    rw [hsz]; omega
theorem winL_mem {s : ByteArray} {a n : Nat} {b : UInt8} (h : b ∈ winL s a n) : b ∈ s.data.toList := by
  have := List.mem_of_mem_drop (List.mem_of_mem_take h)
  simpa using this
theorem win_counts (s : ByteArray) (hb : beads s = true) (hs : s.size ≤ 100) (a n : Nat) (ha : a < s.size) (hn : n ≤ s.size) (t : ByteArray) (ht : t.data.toList = winL s a n) : Ev (fun k => impl_counts.f k t) (cntL (winL s a n)) := by
  have hl : t.size ≤ n := by
    rw [← size_list, ht]
    unfold winL
    rw [List.length_take]; omega
  rw [← ht]
  refine counts_ev t ?_ (by omega)
  unfold beads
  rw [ht]
  exact List.all_eq_true.2 fun b hm => List.all_eq_true.1 hb b (winL_mem hm)
end Go.Proofs.YtafjjbkkcedgnaaDoor.QFnHalfWindows
/-! Windows that hold half of all: the first of them, when there is one, and what the program and the reference say of it. -/
namespace Go.Proofs.YtafjjbkkcedgnaaDoor.QFnHalfWindows
open Go.RowKit Go.Proofs.YtafjjbkkcedgnaaDoor.PFnHalfWindows Go.Proofs.YtafjjbkkcedgnaaDoorW.PrintWords Go.Proofs.YtafjjbkkcedgnaaDoorW.PrintLast Go.Proofs.YtafjjbkkcedgnaaDoorW.PrintMore
set_option linter.unusedVariables false
set_option linter.unusedSimpArgs false
set_option maxRecDepth 100000
/-- Is one of d numbers from the place i on odd? -/
def oddAt (l : List Int) : Nat → Nat → Bool
  | 0, _ => false
  | d + 1, i => if (rd l (i : Int)) % 2 = 1 then true else oddAt l d (i + 1)
theorem tmod2 {x : Int} (h : 0 ≤ x) : Int.tmod x 2 = x % 2 := Int.tmod_eq_emod_of_nonneg h
theorem even_loop (l : List Int) (hl : l.length ≤ 1000) (h0 : ∀ i : Nat, 0 ≤ rd l (i : Int)) : ∀ d i : Nat, i + d = l.length → Ev (fun k => spec_nlEven.l0 k l (l.length : Int) (i : Int)) (!oddAt l d i)
  | 0, i, h => Ev.step (fun f => spec_nlEven.l0.eq_2 ..) (ev_neg (by omega) (Ev.now _))
  | d + 1, i, h => by
    have h1 := h0 i
    refine Ev.step (fun f => spec_nlEven.l0.eq_2 ..) (ev_pos (by omega) (ev_pos (by omega) (ev_pos (by omega) ?_)))
    rw [tmod2 h1, wr (show -9223372036854775808 ≤ (i : Int) + 1 by omega) (by omega)]
    unfold oddAt
    by_cases hc : (rd l (i : Int)) % 2 = 1
    · rw [if_pos hc]; exact ev_pos hc (Ev.now _)
    · rw [if_neg hc]; exact ev_neg hc (even_loop l hl h0 d (i + 1) (by omega))
theorem odd_loop (l : List Int) (hl : l.length ≤ 1000) (h0 : ∀ i : Nat, 0 ≤ rd l (i : Int)) : ∀ d i : Nat, i + d = l.length → ∃ r : Int, Ev (fun k => slices_IndexFunc_int_int__impl_HalfWindow_1.l0 k l (l.length : Int) (i : Int)) r ∧ decide (r ≥ 0) = oddAt l d i
  | 0, i, h => ⟨-1, Ev.step (fun f => slices_IndexFunc_int_int__impl_HalfWindow_1.l0.eq_2 ..) (ev_neg (by omega) (Ev.now _)), rfl⟩
  | d + 1, i, h => by
    have h1 := h0 i
    have e1 : impl_HalfWindow_1.f (rd l (i : Int)) = some ((rd l (i : Int)) % 2 != 0) := by unfold impl_HalfWindow_1.f; rw [tmod2 h1]
    by_cases hc : (rd l (i : Int)) % 2 = 1
    · refine ⟨i, Ev.step (fun f => slices_IndexFunc_int_int__impl_HalfWindow_1.l0.eq_2 ..) (ev_pos (by omega) (ev_pos (by omega) (ev_pos (by omega) (ev_bind0 e1 (ev_pos (by rw [hc]; rfl) (Ev.now _)))))), ?_⟩
      unfold oddAt
      rw [if_pos hc]
      exact decide_eq_true (by omega)
    · obtain ⟨r, h2, h3⟩ := odd_loop l hl h0 d (i + 1) (by omega)
      refine ⟨r, Ev.step (fun f => slices_IndexFunc_int_int__impl_HalfWindow_1.l0.eq_2 ..) (ev_pos (by omega) (ev_pos (by omega) (ev_pos (by omega) (ev_bind0 e1 (ev_neg (by rw [show (rd l (i : Int)) % 2 = 0 by omega]; decide) ?_))))), ?_⟩
      · rw [wr (by omega) (by omega)]; exact h2
      · unfold oddAt
        rw [if_neg hc, h3]
/-- Are twice d of the numbers of the first list, from the place i on, those of the other? -/
def allF (ps qs : List Int) : Nat → Nat → Bool
  | 0, _ => true
  | d + 1, i => decide (2 * rd ps (i : Int) = rd qs (i : Int)) && allF ps qs d (i + 1)
theorem hl1_loop (s : ByteArray) (ps qs : List Int) (a : Int) (R : Int × Bool) (hp : ps.length = 4) (hq : qs.length = 4) (hb : ∀ i : Nat, 0 ≤ rd ps (i : Int) ∧ rd ps (i : Int) ≤ 1000)
    (cont : Ev (fun k => spec_HalfWindow.l0 k s qs (wrap64 (a + 1))) R) : ∀ (d i : Nat) (h : Bool), i + d = 4 → Ev (fun k => spec_HalfWindow.l1 k s qs a h ps (ps.length : Int) (i : Int)) (if (h && allF ps qs d i) = true then (a, true) else R)
  | 0, i, h, e => by
    refine Ev.step (fun f => spec_HalfWindow.l1.eq_2 ..) (ev_neg (by omega) ?_)
    cases h with
    | true => exact ev_pos rfl (Ev.now _)
    | false => exact ev_neg (by decide) cont
  | d + 1, i, h, e => by
    have h1 := hb i
    refine Ev.step (fun f => spec_HalfWindow.l1.eq_2 ..) (ev_pos (by omega) (ev_pos (by omega) (ev_pos (by omega) ?_)))
    rw [wr (show -9223372036854775808 ≤ (i : Int) + 1 by omega) (by omega), wr (show -9223372036854775808 ≤ 2 * rd ps (i : Int) by omega) (by omega)]
    cases h with
    | true =>
      refine ev_pos rfl (ev_pos (by omega) ?_)
      have := hl1_loop s ps qs a R hp hq hb cont d (i + 1) (2 * rd ps (i : Int) == rd qs (i : Int)) (by omega)
      rw [Bool.true_and]
      exact this
    | false =>
      refine ev_neg (by decide) ?_
      have := hl1_loop s ps qs a R hp hq hb cont d (i + 1) false (by omega)
      rw [Bool.false_and] at this ⊢
      exact this
/-- The first of d windows, from the place a on, that has half of all. -/
def firstW (s : ByteArray) : Nat → Nat → Int × Bool
  | 0, _ => (0, false)
  | d + 1, a => if allF (cntL (winL s a (s.size / 2))) (cntL s.data.toList) 4 0 = true then ((a : Int), true) else firstW s d (a + 1)
theorem half_w (s : ByteArray) (hs : s.size ≤ 1000) : wrap64 ((s.size : Int) / 2) = ((s.size / 2 : Nat) : Int) := by rw [wr (by omega) (by omega)]; omega
theorem win_le (s : ByteArray) (hs : s.size ≤ 1000) (a n : Nat) (hn : n ≤ s.size) (i : Nat) : 0 ≤ rd (cntL (winL s a n)) (i : Int) ∧ rd (cntL (winL s a n)) (i : Int) ≤ 1000 := by
  have h1 := cntL_le (winL s a n) i
  have h2 : (winL s a n).length ≤ n := by unfold winL; rw [List.length_take]; omega
  omega
theorem spec_loop (s : ByteArray) (hb : beads s = true) (hs : s.size ≤ 100) : ∀ d a : Nat, a + d = s.size → Ev (fun k => spec_HalfWindow.l0 k s (cntL s.data.toList) (a : Int)) (firstW s d a)
  | 0, a, h => Ev.step (fun f => spec_HalfWindow.l0.eq_2 ..) (ev_neg (by omega) (Ev.now _))
  | d + 1, a, h => by
    refine Ev.step (fun f => spec_HalfWindow.l0.eq_2 ..) (ev_pos (by omega) ?_)
    rw [half_w s (by omega)]
    refine Ev.bind (nlWindow_ev s hb (by omega) (by omega) a (s.size / 2) (by omega) (by omega)) ?_
    have ih := spec_loop s hb hs d (a + 1) (by omega)
    have := hl1_loop s (cntL (winL s a (s.size / 2))) (cntL s.data.toList) (a : Int) (firstW s d (a + 1)) (cntL_len _) (cntL_len _) (win_le s (by omega) a _ (by omega)) (by rw [wr (by omega) (by omega)]; exact ih) 4 0 true rfl
    rw [Bool.true_and] at this
    exact this
theorem impl_loop (s : ByteArray) (hb : beads s = true) (hs : s.size ≤ 100) : ∀ d a : Nat, a + d = s.size → Ev (fun k => impl_HalfWindow.l0 k s (s.size : Int) (a : Int)) (firstW s d a)
  | 0, a, h => Ev.step (fun f => impl_HalfWindow.l0.eq_2 ..) (ev_neg (by omega) (Ev.now _))
  | d + 1, a, h => by
    obtain ⟨t, ht1, ht2⟩ := window_ev s (by omega) a (s.size / 2) (by omega) (by omega)
    have hc := win_counts s hb hs a (s.size / 2) (by omega) (by omega) t ht2
    have hw := win_le s (by omega) a (s.size / 2) (by omega)
    have ih := impl_loop s hb hs d (a + 1) (by omega)
    refine Ev.step (fun f => impl_HalfWindow.l0.eq_2 ..) (ev_pos (by omega) (Ev.bind (counts_ev s hb (by omega)) ?_))
    rw [half_w s (by omega)]
    refine ev_bind0 ht1 (Ev.bind hc ?_)
    have w0 := hw 0
    have w1 := hw 1
    have w2 := hw 2
    have w3 := hw 3
    unfold firstW
    have l1 := cntL_len (winL s a (s.size / 2))
    have l2 := cntL_len s.data.toList
    generalize cntL (winL s a (s.size / 2)) = ps at *
    generalize cntL s.data.toList = qs at *
    have eA : allF ps qs 4 0 = (decide (2 * rd ps 0 = rd qs 0) && (decide (2 * rd ps 1 = rd qs 1) && (decide (2 * rd ps 2 = rd qs 2) && (decide (2 * rd ps 3 = rd qs 3) && true)))) := rfl
    have n0 : ((0 : Nat) : Int) = 0 := rfl
    have n1 : ((1 : Nat) : Int) = 1 := rfl
    have n2 : ((2 : Nat) : Int) = 2 := rfl
    have n3 : ((3 : Nat) : Int) = 3 := rfl
    rw [n0] at w0
    rw [n1] at w1
    rw [n2] at w2
    rw [n3] at w3
    rw [eA, wr (show -9223372036854775808 ≤ 2 * rd ps 0 by omega) (by omega), wr (show -9223372036854775808 ≤ 2 * rd ps 1 by omega) (by omega), wr (show -9223372036854775808 ≤ 2 * rd ps 2 by omega) (by omega), wr (show -9223372036854775808 ≤ 2 * rd ps 3 by omega) (by omega), wr (show -9223372036854775808 ≤ (a : Int) + 1 by omega) (by omega)]
    refine ev_pos (by omega) (ev_pos (by omega) ?_)
    by_cases c0 : 2 * rd ps 0 = rd qs 0
    · refine ev_pos c0 (ev_pos (by omega) (ev_pos (by omega) ?_))
      by_cases c1 : 2 * rd ps 1 = rd qs 1
      · refine ev_pos c1 (ev_pos (by omega) (ev_pos (by omega) ?_))
        by_cases c2 : 2 * rd ps 2 = rd qs 2
        · refine ev_pos c2 (ev_pos (by omega) (ev_pos (by omega) ?_))
          by_cases c3 : 2 * rd ps 3 = rd qs 3
          · rw [if_pos (by simp [c0, c1, c2, c3])]
            exact ev_pos c3 (Ev.now _)
          · rw [if_neg (by simp [c3])]
            exact ev_neg c3 ih
        · rw [if_neg (by simp [c2])]
          exact ev_neg c2 ih
      · rw [if_neg (by simp [c1])]
        exact ev_neg c1 ih
    · rw [if_neg (by simp [c0])]
      exact ev_neg c0 ih
/-! ### there is one, where two kinds at most lie there, each evenly -/
theorem up (f : Nat → Int) (c : Int) (hc : c % 2 = 0) : ∀ d a, (∀ b, a ≤ b → b < a + d → f (b + 1) ≤ f b + 1) → 2 * f a ≤ c → c ≤ 2 * f (a + d) → ∃ b, a ≤ b ∧ b ≤ a + d ∧ 2 * f b = c
  | 0, a, _, h1, h2 => ⟨a, Nat.le_refl _, by omega, by rw [Nat.add_zero] at h2; omega⟩
  | d + 1, a, hs, h1, h2 => by
    by_cases e : 2 * f a = c
    · exact ⟨a, Nat.le_refl _, by omega, e⟩
    · have := hs a (Nat.le_refl _) (by omega)
      obtain ⟨b, g1, g2, g3⟩ := up f c hc d (a + 1) (fun b h h' => hs b (by omega) (by omega)) (by omega) (by rw [show a + 1 + d = a + (d + 1) by omega]; exact h2)
      exact ⟨b, by omega, by omega, g3⟩
theorem mid (f : Nat → Int) (c : Int) (hc : c % 2 = 0) (h : Nat) (hs : ∀ b, b < h → f (b + 1) ≤ f b + 1 ∧ f b ≤ f (b + 1) + 1) (he : f 0 + f h = c) : ∃ b, b ≤ h ∧ 2 * f b = c := by
  by_cases h0 : 2 * f 0 ≤ c
  · obtain ⟨b, _, g2, g3⟩ := up f c hc h 0 (fun b _ hb => (hs b (by omega)).1) h0 (by rw [Nat.zero_add]; omega)
    exact ⟨b, by omega, g3⟩
  · obtain ⟨b, _, g2, g3⟩ := up (fun a => -f a) (-c) (by omega) h 0 (fun b _ hb => by have := (hs b (by omega)).2; show -f (b + 1) ≤ -f b + 1; omega) (by show 2 * -f 0 ≤ -c; omega) (by rw [Nat.zero_add]; show -c ≤ 2 * -f h; omega)
    exact ⟨b, by omega, by have : 2 * -f b = -c := g3; omega⟩
/-- The number of beads of a kind in the first m of a row. -/
theorem cn_take (v : Nat) (l : List UInt8) (m : Nat) : cn v (l.take m) ≤ cn v (l.take (m + 1)) ∧ cn v (l.take (m + 1)) ≤ cn v (l.take m) + 1 := by
  rw [List.take_add_one]
  cases h : l[m]? with
  | none => rw [show (none : Option UInt8).toList = [] from rfl, List.append_nil]; omega
  | some b =>
    rw [show (some b : Option UInt8).toList = [b] from rfl, cn_snoc]
    split <;> omega
theorem cn_app (v : Nat) (l m : List UInt8) : cn v (l ++ m) = cn v l + cn v m := by unfold cn; rw [List.countP_append]; omega
theorem cn_win (v : Nat) (M : List UInt8) (a h : Nat) : cn v (M.take (a + h)) = cn v (M.take a) + cn v ((M.drop a).take h) := by rw [List.take_add, cn_app]
theorem cn_sum (l : List UInt8) (h : l.all isBead = true) : cn 97 l + cn 98 l + cn 99 l + cn 100 l = (l.length : Int) := by
  induction l with
  | nil => rfl
  | cons b l ih =>
    have hb := List.all_eq_true.1 h b (List.mem_cons_self ..)
    have e := ih (List.all_eq_true.2 fun x hx => List.all_eq_true.1 h x (List.mem_cons_of_mem _ hx))
    rw [show b :: l = [b] ++ l from rfl, cn_app, cn_app, cn_app, cn_app, List.length_append, List.length_singleton]
    have one : ∀ v, cn v [b] = if b.toNat = v then 1 else 0 := fun v => by have := cn_snoc v [] b; rw [List.nil_append] at this; rw [this]; unfold cn; simp
    rw [one, one, one, one]
    rcases kind_cases hb with e1 | e1 | e1 | e1 <;> rw [e1] <;> simp <;> omega
/-- A window of half the length, with half of one kind. -/
theorem half_kind (L : List UInt8) (h : Nat) (hL : L.length = 2 * h) (v : Nat) (hv : cn v L % 2 = 0) : ∃ a, a ≤ h ∧ 2 * cn v (((L ++ L).drop a).take h) = cn v L := by
  refine mid (fun a => cn v (((L ++ L).drop a).take h)) (cn v L) hv h (fun b hb => ?_) ?_
  · have e1 := cn_win v (L ++ L) b h
    have e2 := cn_win v (L ++ L) (b + 1) h
    have e3 := cn_take v (L ++ L) b
    have e4 := cn_take v (L ++ L) (b + h)
    rw [show b + h + 1 = b + 1 + h by omega] at e4
    omega
  · have e1 := cn_win v (L ++ L) 0 h
    have e2 := cn_win v (L ++ L) h h
    rw [show h + h = L.length by omega, List.take_left] at e2
    rw [Nat.zero_add, List.take_zero] at e1
    have e3 : cn v ([] : List UInt8) = 0 := rfl
    omega
theorem allF_of {ps qs : List Int} (h : ∀ i : Nat, i < 4 → 2 * rd ps (i : Int) = rd qs (i : Int)) : allF ps qs 4 0 = true := by
  have eA : allF ps qs 4 0 = (decide (2 * rd ps ((0 : Nat) : Int) = rd qs ((0 : Nat) : Int)) && (decide (2 * rd ps ((1 : Nat) : Int) = rd qs ((1 : Nat) : Int)) && (decide (2 * rd ps ((2 : Nat) : Int) = rd qs ((2 : Nat) : Int)) && (decide (2 * rd ps ((3 : Nat) : Int) = rd qs ((3 : Nat) : Int)) && true)))) := rfl
  rw [eA, decide_eq_true (h 0 (by omega)), decide_eq_true (h 1 (by omega)), decide_eq_true (h 2 (by omega)), decide_eq_true (h 3 (by omega))]; rfl
theorem allF_at {ps qs : List Int} (h : allF ps qs 4 0 = true) (i : Nat) (hi : i < 4) : 2 * rd ps (i : Int) = rd qs (i : Int) := by
  have eA : allF ps qs 4 0 = (decide (2 * rd ps ((0 : Nat) : Int) = rd qs ((0 : Nat) : Int)) && (decide (2 * rd ps ((1 : Nat) : Int) = rd qs ((1 : Nat) : Int)) && (decide (2 * rd ps ((2 : Nat) : Int) = rd qs ((2 : Nat) : Int)) && (decide (2 * rd ps ((3 : Nat) : Int) = rd qs ((3 : Nat) : Int)) && true)))) := rfl
  rw [eA, Bool.and_eq_true_iff, Bool.and_eq_true_iff, Bool.and_eq_true_iff, Bool.and_eq_true_iff] at h
  match i, hi with
  | 0, _ => exact of_decide_eq_true h.1
  | 1, _ => exact of_decide_eq_true h.2.1
  | 2, _ => exact of_decide_eq_true h.2.2.1
  | 3, _ => exact of_decide_eq_true h.2.2.2.1
theorem rd_cn (bs : List UInt8) : rd (cntL bs) ((0 : Nat) : Int) = cn 97 bs ∧ rd (cntL bs) ((1 : Nat) : Int) = cn 98 bs ∧ rd (cntL bs) ((2 : Nat) : Int) = cn 99 bs ∧ rd (cntL bs) ((3 : Nat) : Int) = cn 100 bs := ⟨rfl, rfl, rfl, rfl⟩
theorem cn_win_le (v : Nat) (L : List UInt8) (a h : Nat) (h0 : cn v L = 0) : cn v (((L ++ L).drop a).take h) = 0 := by
  have h1 := cn_le v (((L ++ L).drop a).take h)
  have h2 : (((L ++ L).drop a).take h).countP (fun b => decide (b.toNat = v)) ≤ (L ++ L).countP (fun b => decide (b.toNat = v)) := (((List.take_sublist _ _).trans (List.drop_sublist _ _)).countP_le)
  have h3 : cn v (L ++ L) = cn v L + cn v L := cn_app v L L
  unfold cn at *
  omega
/-- There is one. -/
theorem half_some (s : ByteArray) (hb : beads s = true) (ho : oddAt (cntL s.data.toList) 4 0 = false) (hk : kn (cntL s.data.toList) ≤ 2) : ∃ a, a ≤ s.size / 2 ∧ allF (cntL (winL s a (s.size / 2))) (cntL s.data.toList) 4 0 = true := by
  have hL : s.data.toList.length = s.size := size_list s
  have hsum := cn_sum s.data.toList hb
  have n0 := (cn_le 97 s.data.toList).1
  have n1 := (cn_le 98 s.data.toList).1
  have n2 := (cn_le 99 s.data.toList).1
  have n3 := (cn_le 100 s.data.toList).1
  have ev : cn 97 s.data.toList % 2 = 0 ∧ cn 98 s.data.toList % 2 = 0 ∧ cn 99 s.data.toList % 2 = 0 ∧ cn 100 s.data.toList % 2 = 0 := by
    have e : oddAt (cntL s.data.toList) 4 0 = if cn 97 s.data.toList % 2 = 1 then true else if cn 98 s.data.toList % 2 = 1 then true else if cn 99 s.data.toList % 2 = 1 then true else if cn 100 s.data.toList % 2 = 1 then true else false := rfl
    rw [e] at ho
    split at ho
    · cases ho
    · split at ho
      · cases ho
      · split at ho
        · cases ho
        · split at ho
          · cases ho
          · omega
  have hk' : (if 0 < cn 97 s.data.toList then 1 else 0) + (if 0 < cn 98 s.data.toList then 1 else 0) + (if 0 < cn 99 s.data.toList then 1 else 0) + (if 0 < cn 100 s.data.toList then 1 else 0) ≤ (2 : Int) := by
    unfold kn cntL at hk
    simp only [List.countP_cons, List.countP_nil, decide_eq_true_eq] at hk
    split at hk <;> split at hk <;> split at hk <;> split at hk <;> simp_all <;> omega
  have hh : s.data.toList.length = 2 * (s.size / 2) := by omega
  have zero := fun v a h0 => cn_win_le v s.data.toList a (s.size / 2) h0
  have wl : ∀ a, a ≤ s.size / 2 → cn 97 (winL s a (s.size / 2)) + cn 98 (winL s a (s.size / 2)) + cn 99 (winL s a (s.size / 2)) + cn 100 (winL s a (s.size / 2)) = ((s.size / 2 : Nat) : Int) := fun a ha => by
    rw [cn_sum _ (List.all_eq_true.2 fun x hx => List.all_eq_true.1 hb x (winL_mem hx))]
    unfold winL
    rw [List.length_take, List.length_drop, List.length_append]
    omega
  have fin : ∀ a, a ≤ s.size / 2 → (2 * cn 97 (winL s a (s.size / 2)) = cn 97 s.data.toList ∧ 2 * cn 98 (winL s a (s.size / 2)) = cn 98 s.data.toList ∧ 2 * cn 99 (winL s a (s.size / 2)) = cn 99 s.data.toList ∧ 2 * cn 100 (winL s a (s.size / 2)) = cn 100 s.data.toList) → ∃ a, a ≤ s.size / 2 ∧ allF (cntL (winL s a (s.size / 2))) (cntL s.data.toList) 4 0 = true := fun a ha h => ⟨a, ha, allF_of fun i hi => by
    match i, hi with
    | 0, _ => exact h.1
    | 1, _ => exact h.2.1
    | 2, _ => exact h.2.2.1
    | 3, _ => exact h.2.2.2⟩
  have z97 := fun a => zero 97 a
  have z98 := fun a => zero 98 a
  have z99 := fun a => zero 99 a
  have z100 := fun a => zero 100 a
  by_cases p97 : 0 < cn 97 s.data.toList
  · obtain ⟨a, ha, e⟩ := half_kind s.data.toList _ hh 97 ev.1
    have w := wl a ha
    refine fin a ha ?_
    unfold winL at *
    rw [if_pos p97] at hk'
    by_cases p98 : 0 < cn 98 s.data.toList
    · rw [if_pos p98] at hk'
      have q99 : cn 99 s.data.toList = 0 := by split at hk' <;> (try split at hk') <;> omega
      have q100 : cn 100 s.data.toList = 0 := by split at hk' <;> (try split at hk') <;> omega
      have := z99 a q99
      have := z100 a q100
      omega
    · by_cases p99 : 0 < cn 99 s.data.toList
      · rw [if_pos p99] at hk'
        have q100 : cn 100 s.data.toList = 0 := by split at hk' <;> (try split at hk') <;> omega
        have := z98 a (by omega)
        have := z100 a q100
        omega
      · have := z98 a (by omega)
        have := z99 a (by omega)
        omega
  · by_cases p98 : 0 < cn 98 s.data.toList
    · obtain ⟨a, ha, e⟩ := half_kind s.data.toList _ hh 98 ev.2.1
      have w := wl a ha
      refine fin a ha ?_
      unfold winL at *
      have := z97 a (by omega)
      rw [if_pos p98] at hk'
      by_cases p99 : 0 < cn 99 s.data.toList
      · rw [if_pos p99] at hk'
        have q100 : cn 100 s.data.toList = 0 := by split at hk' <;> (try split at hk') <;> omega
        have := z100 a q100
        omega
      · have := z99 a (by omega)
        omega
    · obtain ⟨a, ha, e⟩ := half_kind s.data.toList _ hh 99 ev.2.2.1
      have w := wl a ha
      refine fin a ha ?_
      unfold winL at *
      have := z97 a (by omega)
      have := z98 a (by omega)
      omega
/-- What firstW tells: the first that has half of all. -/
theorem firstW_spec (s : ByteArray) : ∀ d a, (∀ b, a ≤ b → b < a + d → allF (cntL (winL s b (s.size / 2))) (cntL s.data.toList) 4 0 = false) ∧ firstW s d a = (0, false) ∨ ∃ b, a ≤ b ∧ b < a + d ∧ firstW s d a = ((b : Int), true) ∧ allF (cntL (winL s b (s.size / 2))) (cntL s.data.toList) 4 0 = true ∧ ∀ c, a ≤ c → c < b → allF (cntL (winL s c (s.size / 2))) (cntL s.data.toList) 4 0 = false
  | 0, a => .inl ⟨fun b h h' => by omega, rfl⟩
  | d + 1, a => by
    unfold firstW
    by_cases h : allF (cntL (winL s a (s.size / 2))) (cntL s.data.toList) 4 0 = true
    · rw [if_pos h]
      exact .inr ⟨a, Nat.le_refl _, by omega, rfl, h, fun c h1 h2 => by omega⟩
    · rw [if_neg h]
      have hf := Bool.eq_false_iff.2 h
      rcases firstW_spec s d (a + 1) with ⟨g1, g2⟩ | ⟨b, g1, g2, g3, g4, g5⟩
      · exact .inl ⟨fun b h1 h2 => if e : b = a then by rw [e]; exact hf else g1 b (by omega) (by omega), g2⟩
      · exact .inr ⟨b, by omega, by omega, g3, g4, fun c h1 h2 => if e : c = a then by rw [e]; exact hf else g5 c (by omega) h2⟩
end Go.Proofs.YtafjjbkkcedgnaaDoor.QFnHalfWindows
/-! Necklaces: the signs of cuts: what both programs' loops tell. -/
namespace Go.Proofs.YtafjjbkkcedgnaaDoor.QFnHalfWindows
open Go.RowKit Go.Proofs.YtafjjbkkcedgnaaDoor.PFnHalfWindows Go.Proofs.YtafjjbkkcedgnaaDoorW.PrintWords Go.Proofs.YtafjjbkkcedgnaaDoorW.PrintLast Go.Proofs.YtafjjbkkcedgnaaDoorW.PrintMore
set_option linter.unusedVariables false
set_option linter.unusedSimpArgs false
set_option maxRecDepth 100000
/-- Is x among d numbers from the place i on? -/
def among (l : List Int) (x : Int) : Nat → Nat → Bool
  | 0, _ => false
  | d + 1, i => if rd l (i : Int) = x then true else among l x d (i + 1)
theorem index_loop (l : List Int) (hl : l.length ≤ 1048576) (x : Int) : ∀ d i : Nat, i + d = l.length → ∃ r : Int, Ev (fun k => slices_Index_int_int.l0 k l x (l.length : Int) (i : Int)) r ∧ decide (r ≥ 0) = among l x d i
  | 0, i, h => ⟨-1, Ev.step (fun f => slices_Index_int_int.l0.eq_2 ..) (ev_neg (by omega) (Ev.now _)), rfl⟩
  | d + 1, i, h => by
    by_cases hc : rd l (i : Int) = x
    · refine ⟨i, Ev.step (fun f => slices_Index_int_int.l0.eq_2 ..) (ev_pos (by omega) (ev_pos (by omega) (ev_pos (by omega) (ev_pos hc.symm (Ev.now _))))), ?_⟩
      unfold among
      rw [if_pos hc]
      exact decide_eq_true (by omega)
    · obtain ⟨r, h1, h2⟩ := index_loop l hl x d (i + 1) (by omega)
      refine ⟨r, Ev.step (fun f => slices_Index_int_int.l0.eq_2 ..) (ev_pos (by omega) (ev_pos (by omega) (ev_pos (by omega) (ev_neg (fun z => hc z.symm) ?_)))), ?_⟩
      · rw [wr (by omega) (by omega)]; exact h1
      · unfold among
        rw [if_neg hc, h2]
theorem contains_ev (l : List Int) (hl : l.length ≤ 1048576) (x : Int) : Ev (fun k => slices_Contains_int_int.f k l x) (among l x l.length 0) := by
  obtain ⟨r, h1, h2⟩ := index_loop l hl x l.length 0 (by omega)
  refine Ev.bind h1 (ev_eq (Ev.now _) h2)
/-- The signs of the beads from the place i on. -/
def signsFn (l : List Int) : Nat → Nat → Int → List Int
  | 0, _, _ => []
  | d + 1, i, sg => if among l (i : Int) l.length 0 = true then -sg :: signsFn l d (i + 1) (-sg) else sg :: signsFn l d (i + 1) sg
theorem signsFn_len (l : List Int) : ∀ d i sg, (signsFn l d i sg).length = d
  | 0, _, _ => rfl
  | d + 1, i, sg => by unfold signsFn; split <;> simp [signsFn_len l d]
theorem signsFn_unit (l : List Int) : ∀ d i sg, (sg = 1 ∨ sg = -1) → ∀ x ∈ signsFn l d i sg, x = 1 ∨ x = -1
  | 0, _, _, _, x, hx => by cases hx
  | d + 1, i, sg, h, x, hx => by
    unfold signsFn at hx
    split at hx
    · rcases List.mem_cons.1 hx with rfl | hx
      · omega
      · exact signsFn_unit l d (i + 1) (-sg) (by omega) x hx
    · rcases List.mem_cons.1 hx with rfl | hx
      · exact h
      · exact signsFn_unit l d (i + 1) sg h x hx
theorem signs_loop (n : Nat) (hs : n ≤ 16) (l : List Int) (hl : l.length ≤ 1048576) : ∀ (d i : Nat) (sg : Int) (out : List Int), (sg = 1 ∨ sg = -1) → i + d = n → out.length = i →
    Ev (fun k => impl_signs.l0 k l out sg (n : Int) (i : Int)) (out ++ signsFn l d i sg)
  | 0, i, sg, out, hsg, h, ho => Ev.step (fun f => impl_signs.l0.eq_2 ..) (ev_neg (by omega) (ev_eq (Ev.now _) (List.append_nil _).symm))
  | d + 1, i, sg, out, hsg, h, ho => by
    refine Ev.step (fun f => impl_signs.l0.eq_2 ..) (ev_pos (by omega) (Ev.bind (contains_ev l hl _) ?_))
    unfold signsFn
    by_cases hc : among l (i : Int) l.length 0 = true
    · rw [if_pos hc, wr (show -9223372036854775808 ≤ -sg by omega) (by omega), wr (show -9223372036854775808 ≤ (i : Int) + 1 by omega) (by omega)]
      refine ev_pos hc (ev_pos (by omega) ?_)
      have := signs_loop n hs l hl d (i + 1) (-sg) (out ++ [-sg]) (by omega) (by omega) (by simp [ho])
      rw [List.append_assoc] at this
      exact this
    · rw [if_neg hc, wr (show -9223372036854775808 ≤ (i : Int) + 1 by omega) (by omega)]
      refine ev_neg hc (ev_pos (by omega) ?_)
      have := signs_loop n hs l hl d (i + 1) sg (out ++ [sg]) hsg (by omega) (by simp [ho])
      rw [List.append_assoc] at this
      exact this
theorem signs_ev (s : ByteArray) (hs : s.size ≤ 16) (l : List Int) (hl : l.length ≤ 1048576) : Ev (fun k => impl_signs.f k s l) (signsFn l s.size 0 1) :=
  signs_loop s.size hs l hl s.size 0 1 [] (.inl rfl) (by omega) rfl
end Go.Proofs.YtafjjbkkcedgnaaDoor.QFnHalfWindows
/-! Necklaces: the shares of the first thief, and fair cuts. -/
namespace Go.Proofs.YtafjjbkkcedgnaaDoor.QFnHalfWindows
open Go.RowKit Go.Proofs.YtafjjbkkcedgnaaDoor.PFnHalfWindows Go.Proofs.YtafjjbkkcedgnaaDoorW.PrintWords Go.Proofs.YtafjjbkkcedgnaaDoorW.PrintLast Go.Proofs.YtafjjbkkcedgnaaDoorW.PrintMore
set_option linter.unusedVariables false
set_option linter.unusedSimpArgs false
set_option maxRecDepth 100000
/-- The beads of the first thief among the first i. -/
def mine (bs : List UInt8) (sg : List Int) : Nat → List UInt8
  | 0 => []
  | i + 1 => if rd sg (i : Int) = 1 then mine bs sg i ++ (match bs[i]? with | some b => [b] | none => []) else mine bs sg i
theorem mine_len (bs : List UInt8) (sg : List Int) : ∀ i, (mine bs sg i).length ≤ i
  | 0 => Nat.le_refl _
  | i + 1 => by
    have := mine_len bs sg i
    unfold mine
    split
    · rw [List.length_append]; split <;> simp <;> omega
    · omega
theorem mine_some {bs : List UInt8} {sg : List Int} {i : Nat} {b : UInt8} (hg : bs[i]? = some b) (h : rd sg (i : Int) = 1) : mine bs sg (i + 1) = mine bs sg i ++ [b] := by
  show (if rd sg (i : Int) = 1 then _ else _) = _
  rw [if_pos h, hg]
theorem mine_none {bs : List UInt8} {sg : List Int} {i : Nat} (h : ¬ rd sg (i : Int) = 1) : mine bs sg (i + 1) = mine bs sg i := by
  show (if rd sg (i : Int) = 1 then _ else _) = _
  rw [if_neg h]
theorem shares_loop (s : ByteArray) (hb : beads s = true) (hs : s.size ≤ 16) (sg : List Int) (hl : sg.length = s.size) (hu : ∀ x ∈ sg, x = 1 ∨ x = -1) : ∀ d i : Nat, i + d = s.size →
    Ev (fun k => impl_shares.l0 k s (cntL (mine s.data.toList sg i)) sg (sg.length : Int) (i : Int)) (cntL (mine s.data.toList sg s.size))
  | 0, i, h => by
    have e : i = s.size := by omega
    subst e
    exact Ev.step (fun f => impl_shares.l0.eq_2 ..) (ev_neg (by omega) (Ev.now _))
  | d + 1, i, h => by
    obtain ⟨b, hg⟩ := get_lt (s := s) (i := i) (by omega)
    have hk := kind_range (bead_at hb hg)
    have hm := mine_len s.data.toList sg i
    have ih := shares_loop s hb hs sg hl hu d (i + 1) (by omega)
    have hx : rd sg (i : Int) = 1 ∨ rd sg (i : Int) = -1 := by
      rw [rd_nat, List.getD_eq_getElem?_getD, List.getElem?_eq_getElem (by omega)]
      exact hu _ (List.getElem_mem _)
    refine Ev.step (fun f => impl_shares.l0.eq_2 ..) (ev_pos (by omega) (ev_pos (by omega) (ev_pos (by omega) ?_)))
    rw [wr (show -9223372036854775808 ≤ (i : Int) + 1 by omega) (by omega)]
    by_cases hc : rd sg (i : Int) = 1
    · refine ev_pos (by omega) (ev_pos (by omega) ?_)
      rw [bt_get hg]
      refine ev_pos hk.1 (ev_pos (by rw [cntL_len]; exact hk.2) ?_)
      rw [cnt_step _ _ (bead_at hb hg) (by omega), ← mine_some hg hc]
      exact ih
    · rw [mine_none hc] at ih
      exact ev_neg (by omega) ih
/-- The shares of the first thief. -/
def shareL (s : ByteArray) (l : List Int) : List Int := cntL (mine s.data.toList (signsFn l s.size 0 1) s.size)
theorem shares_ev (s : ByteArray) (hb : beads s = true) (hs : s.size ≤ 16) (l : List Int) (hl : l.length ≤ 1048576) : Ev (fun k => impl_shares.f k s l) (shareL s l) :=
  ev_pos (by decide) (Ev.bind (signs_ev s hs l hl) (shares_loop s hb hs _ (signsFn_len _ _ _ _) (signsFn_unit _ _ _ _ (.inl rfl)) s.size 0 (by omega)))
end Go.Proofs.YtafjjbkkcedgnaaDoor.QFnHalfWindows
/-! Necklaces: fair cuts. -/
namespace Go.Proofs.YtafjjbkkcedgnaaDoor.QFnHalfWindows
open Go.RowKit Go.Proofs.YtafjjbkkcedgnaaDoor.PFnHalfWindows Go.Proofs.YtafjjbkkcedgnaaDoorW.PrintWords Go.Proofs.YtafjjbkkcedgnaaDoorW.PrintLast Go.Proofs.YtafjjbkkcedgnaaDoorW.PrintMore
set_option linter.unusedVariables false
set_option linter.unusedSimpArgs false
set_option maxRecDepth 100000
/-- Twice the one is the other, at d places from i on. -/
def twice (a b : List Int) : Nat → Nat → Bool
  | 0, _ => true
  | d + 1, i => if 2 * rd a (i : Int) = rd b (i : Int) then twice a b d (i + 1) else false
theorem isFair_loop (x y : List UInt8) (hx : x.length ≤ 16) : ∀ d i : Nat, i + d = 4 → Ev (fun k => impl_isFair.l0 k (cntL x) (cntL y) 4 (i : Int)) (twice (cntL x) (cntL y) d i)
  | 0, i, h => Ev.step (fun f => impl_isFair.l0.eq_2 ..) (ev_neg (by omega) (Ev.now _))
  | d + 1, i, h => by
    have hb := cntL_le x i
    refine Ev.step (fun f => impl_isFair.l0.eq_2 ..) (ev_pos (by omega) (ev_pos (by omega) (ev_pos (by rw [cntL_len]; omega) (ev_pos (by rw [cntL_len]; omega) ?_))))
    unfold twice
    rw [wr (show -9223372036854775808 ≤ 2 * rd (cntL x) (i : Int) by omega) (by omega), wr (show -9223372036854775808 ≤ (i : Int) + 1 by omega) (by omega)]
    by_cases hc : 2 * rd (cntL x) (i : Int) = rd (cntL y) (i : Int)
    · rw [if_pos hc]; exact ev_pos hc (isFair_loop x y hx d (i + 1) (by omega))
    · rw [if_neg hc]; exact ev_neg hc (Ev.now _)
/-- Are cuts fair? -/
def fairOf (s : ByteArray) (l : List Int) : Bool := twice (shareL s l) (cntL s.data.toList) 4 0
theorem isFair_ev (s : ByteArray) (hb : beads s = true) (hs : s.size ≤ 16) (l : List Int) (hl : l.length ≤ 1048576) : Ev (fun k => impl_isFair.f k s l) (fairOf s l) :=
  Ev.bind (counts_ev s hb (by omega)) (Ev.bind (shares_ev s hb hs l hl) (isFair_loop _ _ (Nat.le_trans (mine_len _ _ _) hs) 4 0 rfl))
end Go.Proofs.YtafjjbkkcedgnaaDoor.QFnHalfWindows
/-! Necklaces: all lists of cuts, as the program lays them out and as the reference counts them. -/
namespace Go.Proofs.YtafjjbkkcedgnaaDoor.QFnHalfWindows
open Go.RowKit Go.Proofs.YtafjjbkkcedgnaaDoor.PFnHalfWindows Go.Proofs.YtafjjbkkcedgnaaDoorW.PrintWords Go.Proofs.YtafjjbkkcedgnaaDoorW.PrintLast Go.Proofs.YtafjjbkkcedgnaaDoorW.PrintMore
set_option linter.unusedVariables false
set_option linter.unusedSimpArgs false
set_option maxRecDepth 100000
/-- For d numbers from x on: the lists that begin with the number and go on as g says. -/
def chFrom (g : Nat → List (List Int)) : Nat → Nat → List (List Int)
  | 0, _ => []
  | d + 1, x => ((g (x + 1)).map fun r => (x : Int) :: r) ++ chFrom g d (x + 1)
/-- All rising lists of m numbers from a on, below n. -/
def ch (n : Nat) : Nat → Nat → List (List Int)
  | 0, _ => [[]]
  | m + 1, a => chFrom (ch n m) (n - a) a
theorem chFrom_len (g : Nat → List (List Int)) (B : Nat) (h : ∀ x, (g x).length ≤ B) : ∀ d x, (chFrom g d x).length ≤ d * B
  | 0, x => by simp [chFrom]
  | d + 1, x => by
    have ih := chFrom_len g B h d (x + 1)
    have h1 := h (x + 1)
    unfold chFrom
    rw [List.length_append, List.length_map, Nat.add_mul, Nat.one_mul]
    omega
theorem ch_len (n : Nat) (hn : n ≤ 16) : ∀ m a, (ch n m a).length ≤ 16 ^ m
  | 0, a => by simp [ch]
  | m + 1, a => by
    have := chFrom_len (ch n m) (16 ^ m) (ch_len n hn m) (n - a) a
    unfold ch
    rw [Nat.pow_succ]
    refine Nat.le_trans this ?_
    rw [Nat.mul_comm]
    exact Nat.mul_le_mul_left _ (by omega)
theorem ch_len3 (n : Nat) (hn : n ≤ 16) (m a : Nat) (hm : m ≤ 3) : (ch n m a).length ≤ 4096 := by
  have h1 := ch_len n hn m a
  have h2 : 16 ^ m ≤ 16 ^ 3 := Nat.pow_le_pow_right (by omega) hm
  omega
theorem chFrom_mem {g : Nat → List (List Int)} {m : Nat} (h : ∀ x r, r ∈ g x → r.length = m) : ∀ d x r, r ∈ chFrom g d x → r.length = m + 1
  | 0, x, r, hr => by simp [chFrom] at hr
  | d + 1, x, r, hr => by
    unfold chFrom at hr
    rcases List.mem_append.1 hr with h1 | h1
    · obtain ⟨q, hq, rfl⟩ := List.mem_map.1 h1
      rw [List.length_cons, h _ _ hq]
    · exact chFrom_mem h d (x + 1) r h1
theorem ch_mem (n : Nat) : ∀ m a r, r ∈ ch n m a → r.length = m
  | 0, a, r, h => by simp [ch] at h; rw [h]; rfl
  | m + 1, a, r, h => chFrom_mem (ch_mem n m) _ _ r h
theorem rdL_at {T : List (List Int)} {j : Nat} (h : j < T.length) : rd_L3 T (j : Int) = T[j] := by
  unfold rd_L3
  rw [Int.toNat_natCast, List.getD_eq_getElem?_getD, List.getElem?_eq_getElem h]
  rfl
theorem l1_loop (n m : Nat) (T : List (List Int)) (hTl : T.length ≤ 100000) (hT : ∀ r ∈ T, r.length ≤ 4) (x : Nat) (R : List (List Int)) : ∀ (d j : Nat) (acc : List (List Int)), j + d = T.length → acc.length + d ≤ 1000000 → x ≤ 100 →
    Ev (fun k => impl_choices.l0 k (n : Int) (m : Int) (acc ++ (T.drop j).map fun r => (x : Int) :: r) ((x : Int) + 1)) R → Ev (fun k => impl_choices.l1 k (n : Int) (m : Int) acc (x : Int) T (T.length : Int) (j : Int)) R
  | 0, j, acc, h, ha, hx, cont => by
    rw [List.drop_eq_nil_of_le (by omega), List.map_nil, List.append_nil] at cont
    refine Ev.step (fun f => impl_choices.l1.eq_2 ..) (ev_neg (by omega) ?_)
    rw [wr (by omega) (by omega)]
    exact cont
  | d + 1, j, acc, h, ha, hx, cont => by
    have hlt : j < T.length := by omega
    have hm := hT _ (List.getElem_mem hlt)
    refine Ev.step (fun f => impl_choices.l1.eq_2 ..) (ev_pos (by omega) (ev_pos (by omega) (ev_pos (by omega) (ev_bind0 rfl ?_))))
    rw [rdL_at hlt, wr (by omega) (by omega)]
    refine ev_pos (by simp; omega) (ev_pos (by omega) ?_)
    refine l1_loop n m T hTl hT x R d (j + 1) (acc ++ [[(x : Int)] ++ T[j]]) (by omega) (by simp; omega) hx ?_
    rw [List.append_assoc]
    rw [List.drop_eq_getElem_cons hlt, List.map_cons] at cont
    exact cont
theorem l0_loop (n m : Nat) (hn : n ≤ 16) (hm : m ≤ 3) (ih : ∀ a : Nat, a ≤ 100 → Ev (fun k => impl_choices.f k (n : Int) (m : Int) (a : Int)) (ch n m a)) : ∀ (d x : Nat) (acc : List (List Int)), d = n - x → x ≤ 100 → acc.length + d * 4096 ≤ 70000 →
    Ev (fun k => impl_choices.l0 k (n : Int) ((m + 1 : Nat) : Int) acc (x : Int)) (acc ++ chFrom (ch n m) d x)
  | 0, x, acc, h, hx, ha => Ev.step (fun f => impl_choices.l0.eq_2 ..) (ev_neg (by omega) (ev_eq (Ev.now _) (by simp [chFrom])))
  | d + 1, x, acc, h, hx, ha => by
    have hl := ch_len3 n hn m (x + 1) hm
    refine Ev.step (fun f => impl_choices.l0.eq_2 ..) (ev_pos (by omega) ?_)
    rw [wr (show -9223372036854775808 ≤ (x : Int) + 1 by omega) (by omega), wr (show -9223372036854775808 ≤ ((m + 1 : Nat) : Int) - 1 by omega) (by omega), show ((m + 1 : Nat) : Int) - 1 = (m : Int) by omega]
    refine Ev.bind (ih (x + 1) (by omega)) ?_
    refine l1_loop n (m + 1) (ch n m (x + 1)) (by omega) (fun r hr => by rw [ch_mem n m _ r hr]; omega) x _ (ch n m (x + 1)).length 0 acc (by omega) (by omega) hx ?_
    rw [List.drop_zero]
    have := l0_loop n m hn hm ih d (x + 1) (acc ++ (ch n m (x + 1)).map fun r => (x : Int) :: r) (by omega) (by omega) (by rw [List.length_append, List.length_map]; omega)
    rw [List.append_assoc] at this
    exact this
theorem choices_ev (n : Nat) (hn : n ≤ 16) : ∀ (m : Nat), m ≤ 4 → ∀ a : Nat, a ≤ 100 → Ev (fun k => impl_choices.f k (n : Int) (m : Int) (a : Int)) (ch n m a)
  | 0, _, a, ha => Ev.step (fun f => impl_choices.f.eq_2 ..) (ev_pos rfl (Ev.now _))
  | m + 1, hm, a, ha => by
    refine Ev.step (fun f => impl_choices.f.eq_2 ..) (ev_neg (by omega) ?_)
    have := l0_loop n m hn (by omega) (fun b hb => choices_ev n hn m (by omega) b hb) (n - a) a [] rfl ha (by simp; omega)
    rw [List.nil_append] at this
    exact this
theorem ev_all {α β : Type} (g : Nat → α → Option β) (v : α → β) : ∀ t : List α, (∀ x ∈ t, Ev (fun k => g k x) (v x)) → ∃ K, ∀ k, K ≤ k → ∀ x ∈ t, g k x = some (v x)
  | [], _ => ⟨0, fun _ _ x hx => by cases hx⟩
  | y :: t, h => by
    obtain ⟨K, hK⟩ := ev_all g v t (fun x hx => h x (List.mem_cons_of_mem _ hx))
    obtain ⟨K', hK'⟩ := h y List.mem_cons_self
    refine ⟨max K K', fun k hk x hx => ?_⟩
    rcases List.mem_cons.1 hx with e | e
    · subst e; exact hK' k (by omega)
    · exact hK k (by omega) x e
theorem fairCuts_ev (s : ByteArray) (hb : beads s = true) (hs : s.size ≤ 16) (m : Nat) (hm : m ≤ 4) : Ev (fun k => impl_fairCuts.f k s (m : Int)) ((ch s.size m 1).filter (fairOf s)) := by
  refine Ev.bind (choices_ev s.size hs m hm 1 (by omega)) ?_
  have hone : ∀ x ∈ ch s.size m 1, Ev (fun k => impl_fairCuts_1.f k x [s]) (!fairOf s x) := fun x hx => by
    have hl := ch_mem s.size m 1 x hx
    refine ev_pos (by simp) ?_
    exact Ev.bind (isFair_ev s hb hs x (by omega)) (Ev.now _)
  obtain ⟨K, hK⟩ := ev_all (fun k x => impl_fairCuts_1.f k x [s]) (fun x => !fairOf s x) _ hone
  have hlen := ch_len s.size hs m 1
  have hp : 16 ^ m ≤ 16 ^ 4 := Nat.pow_le_pow_right (by omega) hm
  refine ⟨K, fun k hk => ?_⟩
  have hq : ∀ x ∈ ch s.size m 1, impl_fairCuts_1.f k x [s] = some (!fairOf s x) := hK k hk
  show (if ((ch s.size m 1).all fun x => (impl_fairCuts_1.f k x [s]).isSome) && decide ((ch s.size m 1).length ≤ 9223372036854775807) then some ((ch s.size m 1).filter fun x => !impl_fairCuts.q k s x) else none) = _
  rw [if_pos]
  · congr 1
    refine List.filter_congr fun x hx => ?_
    unfold impl_fairCuts.q
    rw [hq x hx]
    cases fairOf s x <;> rfl
  · rw [Bool.and_eq_true]
    exact ⟨List.all_eq_true.2 fun x hx => by rw [hq x hx]; rfl, decide_eq_true (by omega)⟩
/-! ### the reference -/
/-- The first fair one of some lists, and how many are fair. -/
def sp (s : ByteArray) (L : List (List Int)) : List Int × Int := ((L.filter (fairOf s)).headD [], ((L.filter (fairOf s)).length : Int))
theorem hd_append (A B : List (List Int)) : ((A ++ B).headD [], ((A ++ B).length : Int)) = if (A.length : Int) = 0 then (if (B.length : Int) > 0 then (B.headD [], (A.length : Int) + (B.length : Int)) else (A.headD [], (A.length : Int) + (B.length : Int))) else (A.headD [], (A.length : Int) + (B.length : Int)) := by
  have e : ((A ++ B).length : Int) = (A.length : Int) + (B.length : Int) := by rw [List.length_append]; omega
  rw [e]
  cases A with
  | nil =>
    rw [if_pos (show (([] : List (List Int)).length : Int) = 0 from rfl)]
    cases B with
    | nil => rw [if_neg (by decide)]; rfl
    | cons y B => rw [if_pos (by rw [List.length_cons]; omega)]; rfl
  | cons x A => rw [if_neg (by rw [List.length_cons]; omega)]; rfl
theorem sp_append (s : ByteArray) (L M : List (List Int)) : sp s (L ++ M) = if (sp s L).2 = 0 then (if (sp s M).2 > 0 then ((sp s M).1, (sp s L).2 + (sp s M).2) else ((sp s L).1, (sp s L).2 + (sp s M).2)) else ((sp s L).1, (sp s L).2 + (sp s M).2) := by
  unfold sp
  rw [List.filter_append]
  exact hd_append _ _
theorem sp_le (s : ByteArray) (L : List (List Int)) : 0 ≤ (sp s L).2 ∧ (sp s L).2 ≤ L.length := by
  have := List.length_filter_le (fairOf s) L
  unfold sp
  show 0 ≤ (((L.filter (fairOf s)).length : Nat) : Int) ∧ (((L.filter (fairOf s)).length : Nat) : Int) ≤ _
  omega
/-- Where the next cut may lie. -/
def From (cuts : List Int) (a : Nat) : Prop := (cuts = [] ∧ a = 1) ∨ (0 < cuts.length ∧ rd cuts ((cuts.length - 1 : Nat) : Int) + 1 = (a : Int))
theorem from_snoc (cuts : List Int) (x : Nat) : From (cuts ++ [(x : Int)]) (x + 1) := by
  refine .inr ⟨by simp, ?_⟩
  have : rd (cuts ++ [(x : Int)]) (((cuts ++ [(x : Int)]).length - 1 : Nat) : Int) = (x : Int) := by
    unfold rd
    rw [Int.toNat_natCast, List.length_append, List.length_singleton, Nat.add_sub_cancel, List.getD_eq_getElem?_getD, List.getElem?_append_right (Nat.le_refl _), Nat.sub_self]
    rfl
  rw [this]; omega
theorem map_cons_app (cuts : List Int) (x : Int) (T : List (List Int)) : (T.map fun r => x :: r).map (fun r => cuts ++ r) = T.map fun r => (cuts ++ [x]) ++ r := by
  rw [List.map_map]
  refine List.map_congr_left fun r _ => ?_
  simp
end Go.Proofs.YtafjjbkkcedgnaaDoor.QFnHalfWindows
/-! The necklace theorem of two thieves, by Fan's lemma: as many cuts as kinds are enough. -/
set_option linter.unusedVariables false
set_option linter.unusedSimpArgs false
set_option linter.unusedSectionVars false
namespace Go.Proofs.YtafjjbkkcedgnaaDoor.QFnHalfWindows.Neck
/-! ### even numbers -/
theorem even_invol {α : Type} [DecidableEq α] (f : α → α) : ∀ (n : Nat) (L : List α), L.length = n → L.Nodup → (∀ x ∈ L, f x ∈ L ∧ f (f x) = x ∧ f x ≠ x) → n % 2 = 0 := by
  intro n
  induction n using Nat.strongRecOn with
  | _ n ih =>
    intro L hl hn hf
    cases L with
    | nil => subst hl; rfl
    | cons x r =>
      obtain ⟨h1, h2, h3⟩ := hf x List.mem_cons_self
      obtain ⟨hx, hr⟩ := List.nodup_cons.1 hn
      have hfx : f x ∈ r := (List.mem_cons.1 h1).resolve_left h3
      have hlen := List.length_erase_of_mem hfx
      have hpos : 0 < r.length := List.length_pos_of_mem hfx
      rw [List.length_cons] at hl
      have := ih (n - 2) (by omega) (r.erase (f x)) (by omega) (hr.erase _) (fun y hy => by
        obtain ⟨hy1, hy2⟩ := hr.mem_erase_iff.1 hy
        obtain ⟨g1, g2, g3⟩ := hf y (List.mem_cons_of_mem _ hy2)
        have e1 : f y ≠ x := fun e => hy1 (by rw [← e, g2])
        have e2 : f y ≠ f x := fun e => hx (by rw [← h2, ← e, g2]; exact hy2)
        exact ⟨hr.mem_erase_iff.2 ⟨e2, (List.mem_cons.1 g1).resolve_left e1⟩, g2, g3⟩)
      omega
theorem len_le {α : Type} [DecidableEq α] : ∀ (A B : List α), A.Nodup → (∀ x ∈ A, x ∈ B) → A.length ≤ B.length
  | [], _, _, _ => Nat.zero_le _
  | x :: r, B, hn, h => by
    obtain ⟨hx, hr⟩ := List.nodup_cons.1 hn
    have hB := h x List.mem_cons_self
    have := len_le r (B.erase x) hr (fun y hy => (List.mem_erase_of_ne (fun e => hx (by rw [← e]; exact hy))).2 (h y (List.mem_cons_of_mem _ hy)))
    have h2 := List.length_erase_of_mem hB
    have h3 := List.length_pos_of_mem hB
    rw [List.length_cons]
    omega
theorem nodup_map_on {α β : Type} (f : α → β) {A : List α} (hA : A.Nodup) (h : ∀ x ∈ A, ∀ y ∈ A, f x = f y → x = y) : (A.map f).Nodup :=
  List.pairwise_map.2 (List.Pairwise.imp_of_mem (fun {a b} ha hb hab e => hab (h a ha b hb e)) hA)
theorem len_of_bij {α β : Type} [DecidableEq α] [DecidableEq β] {A : List α} {B : List β} (hA : A.Nodup) (hB : B.Nodup) (f : α → β) (g : β → α) (h1 : ∀ x ∈ A, f x ∈ B ∧ g (f x) = x) (h2 : ∀ y ∈ B, g y ∈ A ∧ f (g y) = y) : A.length = B.length := by
  have a := len_le (A.map f) B (nodup_map_on f hA fun x hx y hy e => by rw [← (h1 x hx).2, ← (h1 y hy).2, e]) (fun z hz => by
    obtain ⟨x, hx, rfl⟩ := List.mem_map.1 hz
    exact (h1 x hx).1)
  have b := len_le (B.map g) A (nodup_map_on g hB fun x hx y hy e => by rw [← (h2 x hx).2, ← (h2 y hy).2, e]) (fun z hz => by
    obtain ⟨x, hx, rfl⟩ := List.mem_map.1 hz
    exact (h2 x hx).1)
  rw [List.length_map] at a b
  omega
/-! ### all lists of some length -/
def tup {α : Type} (A : List α) : Nat → List (List α)
  | 0 => [[]]
  | k + 1 => A.flatMap fun a => (tup A k).map (a :: ·)
theorem mem_tup {α : Type} {A : List α} : ∀ {k : Nat} {l : List α}, l ∈ tup A k ↔ l.length = k ∧ ∀ x ∈ l, x ∈ A
  | 0, l => by
    constructor
    · intro h
      have : l = [] := by simpa [tup] using h
      subst this
      exact ⟨rfl, fun x hx => by cases hx⟩
    · rintro ⟨h, _⟩
      have : l = [] := List.eq_nil_of_length_eq_zero h
      subst this
      exact List.mem_singleton.2 rfl
  | k + 1, l => by
    unfold tup
    rw [List.mem_flatMap]
    constructor
    · rintro ⟨a, ha, h⟩
      obtain ⟨r, hr, rfl⟩ := List.mem_map.1 h
      obtain ⟨h1, h2⟩ := mem_tup.1 hr
      exact ⟨by rw [List.length_cons, h1], fun x hx => by
        rcases List.mem_cons.1 hx with e | e
        · rw [e]; exact ha
        · exact h2 x e⟩
    · rintro ⟨h1, h2⟩
      cases l with
      | nil => cases h1
      | cons a r => exact ⟨a, h2 a List.mem_cons_self, List.mem_map.2 ⟨r, mem_tup.2 ⟨by simpa using h1, fun x hx => h2 x (List.mem_cons_of_mem _ hx)⟩, rfl⟩⟩
theorem nodup_tup {α : Type} {A : List α} (hA : A.Nodup) : ∀ k, (tup A k).Nodup
  | 0 => by simp [tup]
  | k + 1 => by
    unfold tup
    refine List.pairwise_flatMap.2 ⟨fun a _ => nodup_map_on _ (nodup_tup hA k) (fun x _ y _ e => (List.cons.inj e).2), List.Pairwise.imp ?_ hA⟩
    intro a b hab x hx y hy e
    obtain ⟨r, _, rfl⟩ := List.mem_map.1 hx
    obtain ⟨r', _, rfl⟩ := List.mem_map.1 hy
    exact hab (List.cons.inj e).1
/-! ### labels that alternate -/
abbrev Lab := Nat × Bool
def ng (x : Lab) : Lab := (x.1, !x.2)
theorem ng_ng (x : Lab) : ng (ng x) = x := by simp [ng]
/-- Of the m kinds from i on: each at most once, with the signs one after the other, q the first. -/
def alt : Nat → Nat → Bool → (Lab → Nat) → Bool
  | 0, _, _, _ => true
  | m + 1, i, q, n => if n (i, true) + n (i, false) = 0 then alt m (i + 1) q n else if n (i, q) = 1 ∧ n (i, !q) = 0 then alt m (i + 1) (!q) n else false
theorem alt_succ (m i : Nat) (q : Bool) (n : Lab → Nat) : alt (m + 1) i q n = if n (i, true) + n (i, false) = 0 then alt m (i + 1) q n else if n (i, q) = 1 ∧ n (i, !q) = 0 then alt m (i + 1) (!q) n else false := rfl
theorem two_cases (q s : Bool) : q = s ∨ q = !s := by cases q <;> cases s <;> simp
theorem alt_congr : ∀ (m i : Nat) (q : Bool) (n n' : Lab → Nat), (∀ j s, i ≤ j → n (j, s) = n' (j, s)) → alt m i q n = alt m i q n'
  | 0, _, _, _, _, _ => rfl
  | m + 1, i, q, n, n', h => by
    unfold alt
    rw [h i true (Nat.le_refl _), h i false (Nat.le_refl _), h i q (Nat.le_refl _), h i (!q) (Nat.le_refl _), alt_congr m (i + 1) q n n' (fun j s hj => h j s (by omega)), alt_congr m (i + 1) (!q) n n' (fun j s hj => h j s (by omega))]
theorem alt_neg : ∀ (m i : Nat) (q : Bool) (n n' : Lab → Nat), (∀ j s, n' (j, s) = n (j, !s)) → alt m i q n' = alt m i (!q) n
  | 0, _, _, _, _, _ => rfl
  | m + 1, i, q, n, n', h => by
    unfold alt
    rw [h i true, h i false, h i q, h i (!q), alt_neg m (i + 1) q n n' h, alt_neg m (i + 1) (!q) n n' h]
    simp only [Bool.not_not, Bool.not_true, Bool.not_false]
    rw [Nat.add_comm]
def dec (n : Lab → Nat) (x : Lab) : Lab → Nat := fun y => if y = x then n y - 1 else n y
theorem dec_self (n : Lab → Nat) (x : Lab) : dec n x x = n x - 1 := if_pos rfl
theorem dec_ne (n : Lab → Nat) {x y : Lab} (h : y ≠ x) : dec n x y = n y := if_neg h
def G (m i : Nat) (q : Bool) (n : Lab → Nat) (x : Lab) : Bool := decide (i ≤ x.1) && alt m i q (dec n x)
theorem count_split (L : List Lab) (x : Lab) (c : Bool) (f g : Lab → Bool) (h : ∀ y ∈ L, f y = if y = x then c else g y) (hg : g x = false) : L.countP f = (if c = true then L.count x else 0) + L.countP g := by
  induction L with
  | nil => simp
  | cons y r ih =>
    have ih := ih (fun z hz => h z (List.mem_cons_of_mem _ hz))
    have hy := h y List.mem_cons_self
    rw [List.countP_cons, List.countP_cons, List.count_cons, ih, hy]
    by_cases e : y = x
    · subst e
      rw [if_pos rfl, hg]
      cases c <;> simp <;> omega
    · rw [if_neg e]
      have : (y == x) = false := beq_eq_false_iff_ne.2 e
      rw [this]
      cases c <;> simp <;> omega
def b1 (b : Bool) : Nat := if b = true then 1 else 0
theorem fan_count (L : List Lab) (hL : ∀ j, L.count (j, true) = 0 ∨ L.count (j, false) = 0) : ∀ (m i : Nat) (q : Bool), (∀ x ∈ L, x.1 < i + m) → L.countP (G m i q (fun x => L.count x)) % 2 = (b1 (alt m i true (fun x => L.count x)) + b1 (alt m i false (fun x => L.count x))) % 2
  | 0, i, q, hb => by
    have : L.countP (G 0 i q (fun x => L.count x)) = 0 := List.countP_eq_zero.2 (fun x hx => by
      have := hb x hx
      simp [G]; omega)
    rw [this]; simp [alt, b1]
  | m + 1, i, q, hb => by
    have ih := fun q' => fan_count L hL m (i + 1) q' (fun x hx => by have := hb x hx; omega)
    -- the one sign that may be there
    obtain ⟨s, hs⟩ : ∃ s, L.count (i, !s) = 0 := by
      rcases hL i with h | h
      · exact ⟨false, h⟩
      · exact ⟨true, h⟩
    have hno : ∀ y ∈ L, y.1 = i → y = (i, s) := fun y hy e => by
      obtain ⟨a, b⟩ := y
      subst e
      rcases two_cases b s with h | h
      · rw [h]
      · subst h
        have := List.count_eq_zero.1 hs
        exact absurd hy this
    have hsum : L.count (i, true) + L.count (i, false) = L.count (i, s) := by cases s <;> simp_all
    -- what an element of another kind tells
    have hoth : ∀ q' y, y.1 ≠ i → i ≤ y.1 → alt (m + 1) i q' (dec (fun x => L.count x) y) = if L.count (i, s) = 0 then alt m (i + 1) q' (dec (fun x => L.count x) y) else if L.count (i, s) = 1 ∧ q' = s then alt m (i + 1) (!q') (dec (fun x => L.count x) y) else false := fun q' y hy _ => by
      rw [alt_succ, dec_ne _ (fun e => hy (by rw [← e])), dec_ne _ (fun e => hy (by rw [← e])), dec_ne _ (fun e => hy (by rw [← e])), dec_ne _ (fun e => hy (by rw [← e])), hsum]
      by_cases h0 : L.count (i, s) = 0
      · rw [if_pos h0, if_pos h0]
      · rw [if_neg h0, if_neg h0]
        rcases two_cases q' s with e | e
        · subst e
          rw [hs]
          by_cases h1 : L.count (i, q') = 1
          · rw [if_pos ⟨h1, rfl⟩, if_pos ⟨h1, rfl⟩]
          · rw [if_neg (fun z => h1 z.1), if_neg (fun z => h1 z.1)]
        · subst e
          rw [hs, if_neg (fun z => absurd z.1 (by decide)), if_neg (fun z => absurd z.2 (by cases s <;> decide))]
    have hall : ∀ q', alt (m + 1) i q' (fun x => L.count x) = if L.count (i, s) = 0 then alt m (i + 1) q' (fun x => L.count x) else if L.count (i, s) = 1 ∧ q' = s then alt m (i + 1) (!q') (fun x => L.count x) else false := fun q' => by
      show (if L.count (i, true) + L.count (i, false) = 0 then alt m (i + 1) q' (fun x => L.count x) else if L.count (i, q') = 1 ∧ L.count (i, !q') = 0 then alt m (i + 1) (!q') (fun x => L.count x) else false) = _
      rw [hsum]
      by_cases h0 : L.count (i, s) = 0
      · rw [if_pos h0, if_pos h0]
      · rw [if_neg h0, if_neg h0]
        rcases two_cases q' s with e | e
        · subst e
          rw [hs]
          by_cases h1 : L.count (i, q') = 1
          · rw [if_pos ⟨h1, rfl⟩, if_pos ⟨h1, rfl⟩]
          · rw [if_neg (fun z => h1 z.1), if_neg (fun z => h1 z.1)]
        · subst e
          rw [hs, if_neg (fun z => absurd z.1 (by decide)), if_neg (fun z => absurd z.2 (by cases s <;> decide))]
    have hself : ∀ q', alt (m + 1) i q' (dec (fun x => L.count x) (i, s)) = if L.count (i, s) - 1 = 0 then alt m (i + 1) q' (fun x => L.count x) else if L.count (i, s) - 1 = 1 ∧ q' = s then alt m (i + 1) (!q') (fun x => L.count x) else false := fun q' => by
      have e1 : dec (fun x => L.count x) (i, s) (i, s) = L.count (i, s) - 1 := dec_self _ _
      have e2 : dec (fun x => L.count x) (i, s) (i, !s) = 0 := by rw [dec_ne _ (by simp)]; exact hs
      have e3 : dec (fun x => L.count x) (i, s) (i, true) + dec (fun x => L.count x) (i, s) (i, false) = L.count (i, s) - 1 := by cases s <;> simp_all
      have c1 : ∀ q'', alt m (i + 1) q'' (dec (fun x => L.count x) (i, s)) = alt m (i + 1) q'' (fun x => L.count x) := fun q'' => alt_congr _ _ _ _ _ (fun j s' hj => dec_ne _ (by simp; omega))
      show (if dec (fun x => L.count x) (i, s) (i, true) + dec (fun x => L.count x) (i, s) (i, false) = 0 then _ else _) = _
      rw [e3, c1, c1]
      by_cases h0 : L.count (i, s) - 1 = 0
      · rw [if_pos h0, if_pos h0]
      · rw [if_neg h0, if_neg h0]
        rcases two_cases q' s with e | e
        · subst e
          rw [e1, e2]
          by_cases h1 : L.count (i, q') - 1 = 1
          · rw [if_pos ⟨h1, rfl⟩, if_pos ⟨h1, rfl⟩]
          · rw [if_neg (fun z => h1 z.1), if_neg (fun z => h1 z.1)]
        · subst e
          rw [e2, if_neg (fun z => absurd z.1 (by decide)), if_neg (fun z => absurd z.2 (by cases s <;> decide))]
    rw [hall true, hall false]
    by_cases h0 : L.count (i, s) = 0
    · have hc : L.countP (G (m + 1) i q (fun x => L.count x)) = L.countP (G m (i + 1) q (fun x => L.count x)) := List.countP_congr (fun y hy => by
        have hne : y.1 ≠ i := fun e => List.count_eq_zero.1 h0 (by rw [← hno y hy e]; exact hy)
        unfold G
        by_cases hle : i ≤ y.1
        · rw [hoth q y hne hle, if_pos h0, decide_eq_true hle, decide_eq_true (show i + 1 ≤ y.1 by omega)]
        · rw [decide_eq_false hle, decide_eq_false (show ¬ i + 1 ≤ y.1 by omega), Bool.false_and, Bool.false_and])
      rw [hc, if_pos h0, if_pos h0]
      exact ih q
    · rw [if_neg h0, if_neg h0]
      by_cases h1 : L.count (i, s) = 1
      · by_cases hq : q = s
        · have hc := count_split L (i, s) (alt m (i + 1) q (fun x => L.count x)) (G (m + 1) i q (fun x => L.count x)) (G m (i + 1) (!q) (fun x => L.count x)) (fun y hy => by
            by_cases e : y = (i, s)
            · rw [if_pos e, e]
              unfold G
              rw [hself q, if_pos (by omega), decide_eq_true (Nat.le_refl i), Bool.true_and]
            · rw [if_neg e]
              have hne : y.1 ≠ i := fun e' => e (hno y hy e')
              unfold G
              by_cases hle : i ≤ y.1
              · rw [hoth q y hne hle, if_neg h0, if_pos ⟨h1, hq⟩, decide_eq_true hle, decide_eq_true (show i + 1 ≤ y.1 by omega)]
              · rw [decide_eq_false hle, decide_eq_false (show ¬ i + 1 ≤ y.1 by omega), Bool.false_and, Bool.false_and]) (by unfold G; rw [decide_eq_false (by simp)]; rfl)
          have := ih (!q)
          rw [hc, h1]
          subst hq
          cases q <;> simp [b1] at this ⊢ <;> omega
        · have hc := count_split L (i, s) (alt m (i + 1) q (fun x => L.count x)) (G (m + 1) i q (fun x => L.count x)) (fun _ => false) (fun y hy => by
            by_cases e : y = (i, s)
            · rw [if_pos e, e]
              unfold G
              rw [hself q, if_pos (by omega), decide_eq_true (Nat.le_refl i), Bool.true_and]
            · rw [if_neg e]
              have hne : y.1 ≠ i := fun e' => e (hno y hy e')
              unfold G
              by_cases hle : i ≤ y.1
              · rw [hoth q y hne hle, if_neg h0, if_neg (fun z => hq z.2), Bool.and_false]
              · rw [decide_eq_false hle, Bool.false_and]) rfl
          rw [hc, h1]
          have e : q = !s := by cases q <;> cases s <;> simp_all
          subst e
          cases s <;> simp [b1]
      · have hc := count_split L (i, s) (G (m + 1) i q (fun x => L.count x) (i, s)) (G (m + 1) i q (fun x => L.count x)) (fun _ => false) (fun y hy => by
            by_cases e : y = (i, s)
            · rw [if_pos e, e]
            · rw [if_neg e]
              have hne : y.1 ≠ i := fun e' => e (hno y hy e')
              unfold G
              by_cases hle : i ≤ y.1
              · rw [hoth q y hne hle, if_neg h0, if_neg (fun z => h1 z.1), Bool.and_false]
              · rw [decide_eq_false hle, Bool.false_and]) rfl
        have e0 : ∀ q', (if L.count (i, s) = 1 ∧ q' = s then alt m (i + 1) (!q') (fun x => L.count x) else false) = false := fun q' => if_neg (fun z => h1 z.1)
        have e1 : L.countP (fun _ : Lab => false) = 0 := List.countP_eq_zero.2 (fun _ _ => by simp)
        rw [hc, e0, e0, e1]
        by_cases h2 : L.count (i, s) = 2
        · rw [h2]; split <;> rfl
        · have : G (m + 1) i q (fun x => L.count x) (i, s) = false := by
            unfold G
            rw [hself q, if_neg (by omega), if_neg (fun z => h2 (by omega)), Bool.and_false]
          rw [this]; rfl
theorem alt_le : ∀ (m i : Nat) (q : Bool) (n : Lab → Nat), alt m i q n = true → ∀ j, i ≤ j → j < i + m → n (j, true) + n (j, false) ≤ 1
  | 0, i, _, _, _, j, h1, h2 => by omega
  | m + 1, i, q, n, h, j, h1, h2 => by
    unfold alt at h
    split at h
    · rename_i h0
      rcases Nat.lt_or_ge i j with h3 | h3
      · exact alt_le m (i + 1) q n h j h3 (by omega)
      · have : j = i := by omega
        subst this; omega
    · split at h
      · rename_i h0 h4
        rcases Nat.lt_or_ge i j with h3 | h3
        · exact alt_le m (i + 1) (!q) n h j h3 (by omega)
        · have : j = i := by omega
          subst this
          cases q <;> simp at h4 <;> omega
      · cases h
theorem alt_both : ∀ (m i : Nat) (n : Lab → Nat), alt m i true n = true → alt m i false n = true → ∀ j s, i ≤ j → j < i + m → n (j, s) = 0
  | 0, i, n, _, _, j, s, h1, h2 => by omega
  | m + 1, i, n, ha, hb, j, s, h1, h2 => by
    unfold alt at ha hb
    by_cases h0 : n (i, true) + n (i, false) = 0
    · rw [if_pos h0] at ha hb
      rcases Nat.lt_or_ge i j with h3 | h3
      · exact alt_both m (i + 1) n ha hb j s h3 (by omega)
      · have : j = i := by omega
        subst this
        cases s <;> omega
    · rw [if_neg h0] at ha hb
      by_cases h4 : n (i, true) = 1 ∧ n (i, !true) = 0
      · rw [if_neg (fun z => by have := z.1; have := h4.2; simp at *; omega)] at hb
        cases hb
      · rw [if_neg h4] at ha
        cases ha
end Go.Proofs.YtafjjbkkcedgnaaDoor.QFnHalfWindows.Neck
namespace Go.Proofs.YtafjjbkkcedgnaaDoor.QFnHalfWindows.Neck
/-! ### chains of signed places -/
def vec (l : List Lab) : Nat → Int := fun u => if (u, true) ∈ l then 1 else if (u, false) ∈ l then -1 else 0
theorem vec_congr {l l' : List Lab} (h : ∀ x, x ∈ l ↔ x ∈ l') : vec l = vec l' := by
  funext u
  unfold vec
  simp only [h]
def swp : Nat → List Lab → List Lab
  | 0, a :: b :: r => b :: a :: r
  | j + 1, a :: r => a :: swp j r
  | _, l => l
theorem swp_at : ∀ (p : List Lab) (a b : Lab) (r : List Lab), swp p.length (p ++ a :: b :: r) = p ++ b :: a :: r
  | [], _, _, _ => rfl
  | x :: p, a, b, r => by
    show x :: swp p.length (p ++ a :: b :: r) = _
    rw [swp_at p]; rfl
def flp : List Lab → List Lab
  | [] => []
  | [x] => [ng x]
  | a :: b :: r => a :: flp (b :: r)
theorem flp_at : ∀ (p : List Lab) (x : Lab), flp (p ++ [x]) = p ++ [ng x]
  | [], _ => rfl
  | [y], x => rfl
  | y :: z :: p, x => by
    show y :: flp (z :: p ++ [x]) = _
    rw [flp_at (z :: p) x]; rfl
theorem split_at {l : List Lab} {j : Nat} (h : j + 1 < l.length) : ∃ p a b r, l = p ++ a :: b :: r ∧ p.length = j := by
  refine ⟨l.take j, l[j], l[j + 1], l.drop (j + 2), ?_, by rw [List.length_take]; omega⟩
  rw [← List.drop_eq_getElem_cons (by omega), ← List.drop_eq_getElem_cons (by omega), List.take_append_drop]
theorem split_last {l : List Lab} {k : Nat} (h : l.length = k + 1) : ∃ p x, l = p ++ [x] ∧ p.length = k := by
  have hne : l ≠ [] := fun e => by rw [e] at h; cases h
  exact ⟨l.dropLast, l.getLast hne, (List.dropLast_concat_getLast hne).symm, by rw [List.length_dropLast]; omega⟩
section
variable (Λ : (Nat → Int) → Lab)
/-- The labels along a chain. -/
def lb : List Lab → List Lab → List Lab
  | _, [] => []
  | pre, a :: r => Λ (vec (pre ++ [a])) :: lb (pre ++ [a]) r
theorem lb_len : ∀ (pre r : List Lab), (lb Λ pre r).length = r.length
  | _, [] => rfl
  | pre, a :: r => by unfold lb; rw [List.length_cons, lb_len, List.length_cons]
theorem lb_append : ∀ (pre p r : List Lab), lb Λ pre (p ++ r) = lb Λ pre p ++ lb Λ (pre ++ p) r
  | pre, [], r => by rw [List.append_nil]; rfl
  | pre, a :: p, r => by
    show Λ (vec (pre ++ [a])) :: lb Λ (pre ++ [a]) (p ++ r) = _
    rw [lb_append (pre ++ [a]) p r, List.append_assoc]; rfl
theorem lb_congr : ∀ (r : List Lab) (pre pre' : List Lab), (∀ x, x ∈ pre ↔ x ∈ pre') → lb Λ pre r = lb Λ pre' r
  | [], _, _, _ => rfl
  | a :: r, pre, pre', h => by
    have h2 : ∀ x, x ∈ pre ++ [a] ↔ x ∈ pre' ++ [a] := fun x => by rw [List.mem_append, List.mem_append, h]
    unfold lb
    rw [vec_congr h2, lb_congr r _ _ h2]
theorem lb_mem : ∀ (r pre : List Lab) (y : Lab), y ∈ lb Λ pre r → ∃ q r', q ≠ [] ∧ r = q ++ r' ∧ y = Λ (vec (pre ++ q))
  | [], _, y, h => by cases h
  | a :: r, pre, y, h => by
    unfold lb at h
    rcases List.mem_cons.1 h with e | e
    · exact ⟨[a], r, by simp, rfl, e⟩
    · obtain ⟨q, r', _, rfl, e2⟩ := lb_mem r _ y e
      exact ⟨a :: q, r', by simp, rfl, by rw [e2, List.append_assoc]; rfl⟩
theorem facet_swap (p : List Lab) (a b : Lab) (r : List Lab) : (lb Λ [] (p ++ a :: b :: r)).eraseIdx p.length = (lb Λ [] (p ++ b :: a :: r)).eraseIdx p.length := by
  have h : ∀ (a b : Lab), (lb Λ [] (p ++ a :: b :: r)).eraseIdx p.length = lb Λ [] p ++ (Λ (vec (p ++ [a] ++ [b])) :: lb Λ (p ++ [a] ++ [b]) r) := fun a b => by
    rw [lb_append, List.eraseIdx_append_of_length_le (by rw [lb_len]; exact Nat.le_refl _), lb_len, Nat.sub_self]; rfl
  have hm : ∀ x, x ∈ p ++ [a] ++ [b] ↔ x ∈ p ++ [b] ++ [a] := fun x => by simp; constructor <;> rintro (h | h | h) <;> simp [h]
  rw [h, h, vec_congr hm, lb_congr Λ r _ _ hm]
theorem facet_last (p : List Lab) (x : Lab) : (lb Λ [] (p ++ [x])).eraseIdx p.length = lb Λ [] p := by
  rw [lb_append, List.eraseIdx_append_of_length_le (by rw [lb_len]; exact Nat.le_refl _), lb_len, Nat.sub_self]
  show lb Λ [] p ++ [] = _
  rw [List.append_nil]
/-- Signed orders of the places below k. -/
def pool (k : Nat) : List Lab := (List.range k).flatMap fun i => [(i, true), (i, false)]
theorem mem_pool {k : Nat} {x : Lab} : x ∈ pool k ↔ x.1 < k := by
  obtain ⟨i, s⟩ := x
  unfold pool
  rw [List.mem_flatMap]
  constructor
  · rintro ⟨a, ha, h⟩
    have := List.mem_range.1 ha
    simp at h
    rcases h with h | h <;> (show i < k; omega)
  · intro h
    exact ⟨i, List.mem_range.2 h, by cases s <;> simp⟩
theorem nodup_pool (k : Nat) : (pool k).Nodup := by
  refine List.pairwise_flatMap.2 ⟨fun a _ => by simp, List.Pairwise.imp ?_ List.nodup_range⟩
  intro a b hab x hx y hy e
  simp at hx hy
  rcases hx with hx | hx <;> rcases hy with hy | hy <;> rw [hx, hy] at e <;> exact hab (by have := congrArg Prod.fst e; exact this)
structure SP (k : Nat) (l : List Lab) : Prop where
  len : l.length = k
  nodup : (l.map Prod.fst).Nodup
  lt : ∀ x ∈ l, x.1 < k
/-- .. the greatest place with a plus. -/
structure HP (k : Nat) (l : List Lab) : Prop where
  sp : SP k l
  up : k = 0 ∨ (k - 1, true) ∈ l
instance (k : Nat) (l : List Lab) : Decidable (HP k l) := decidable_of_iff (((l.length = k ∧ (l.map Prod.fst).Nodup) ∧ ∀ x ∈ l, x.1 < k) ∧ (k = 0 ∨ (k - 1, true) ∈ l)) ⟨fun h => ⟨⟨h.1.1.1, h.1.1.2, h.1.2⟩, h.2⟩, fun h => ⟨⟨⟨h.sp.len, h.sp.nodup⟩, h.sp.lt⟩, h.up⟩⟩
def Hs (k : Nat) : List (List Lab) := (tup (pool k) k).filter fun l => decide (HP k l)
theorem mem_Hs {k : Nat} {l : List Lab} : l ∈ Hs k ↔ HP k l := by
  unfold Hs
  rw [List.mem_filter, decide_eq_true_eq]
  exact ⟨fun h => h.2, fun h => ⟨mem_tup.2 ⟨h.sp.len, fun x hx => mem_pool.2 (h.sp.lt x hx)⟩, h⟩⟩
theorem nodup_Hs (k : Nat) : (Hs k).Nodup := List.Pairwise.filter _ (nodup_tup (nodup_pool k) k)
theorem SP.perm {k : Nat} {l l' : List Lab} (h : SP k l) (e : List.Perm l l') : SP k l' :=
  ⟨by rw [← e.length_eq, h.len], (e.map Prod.fst).nodup_iff.1 h.nodup, fun x hx => h.lt x (e.mem_iff.2 hx)⟩
theorem SP.one {k : Nat} {l : List Lab} (h : SP k l) {u : Nat} (ha : (u, true) ∈ l) (hb : (u, false) ∈ l) : False := by
  have := h.nodup
  have h2 : ∀ l : List Lab, (l.map Prod.fst).Nodup → (u, true) ∈ l → (u, false) ∈ l → False := fun l => by
    induction l with
    | nil => intro _ h; cases h
    | cons y r ih =>
      intro hn h1 h2
      rw [List.map_cons, List.nodup_cons] at hn
      rcases List.mem_cons.1 h1 with e1 | e1 <;> rcases List.mem_cons.1 h2 with e2 | e2
      · rw [← e1] at e2; cases e2
      · exact hn.1 (List.mem_map.2 ⟨_, e2, by rw [← e1]⟩)
      · exact hn.1 (List.mem_map.2 ⟨_, e1, by rw [← e2]⟩)
      · exact ih hn.2 e1 e2
  exact h2 l this ha hb
theorem ng_mem {l : List Lab} {u : Nat} {s : Bool} : (u, s) ∈ l.map ng ↔ (u, !s) ∈ l := by
  rw [List.mem_map]
  constructor
  · rintro ⟨⟨a, b⟩, h, e⟩
    unfold ng at e
    injection e with e1 e2
    subst e1 e2
    rw [Bool.not_not]; exact h
  · intro h
    exact ⟨(u, !s), h, by simp [ng]⟩
theorem SP.ng {k : Nat} {l : List Lab} (h : SP k l) : SP k (l.map ng) :=
  ⟨by rw [List.length_map, h.len], by rw [List.map_map]; exact h.nodup, fun x hx => by
    obtain ⟨y, hy, rfl⟩ := List.mem_map.1 hx
    exact h.lt y hy⟩
theorem ngng (l : List Lab) : (l.map ng).map ng = l := by
  rw [List.map_map]
  have : (ng ∘ ng) = id := funext ng_ng
  rw [this, List.map_id]
/-- The labels alternate, q first. -/
def al (B : Nat) (q : Bool) (L : List Lab) : Bool := alt B 0 q (fun x => L.count x)
theorem al_ng (B : Nat) (q : Bool) (L : List Lab) : al B q (L.map ng) = al B (!q) L := by
  unfold al
  refine alt_neg _ _ _ _ _ (fun j s => ?_)
  show (L.map ng).count (j, s) = L.count (j, !s)
  have hinj : ∀ x y : Lab, ng x = ng y → x = y := fun x y e => by rw [← ng_ng x, e, ng_ng]
  rw [show ((j, s) : Lab) = ng (j, !s) by simp [ng], List.count_eq_countP, List.countP_map, List.count_eq_countP]
  refine List.countP_congr (fun x _ => ?_)
  simp only [Function.comp, beq_iff_eq]
  exact ⟨fun e => hinj _ _ e, fun e => by rw [e]⟩
structure Good (n B : Nat) : Prop where
  col : ∀ k l, k ≤ n → SP k l → ∀ q r, l = q ++ r → q ≠ [] → (Λ (vec q)).1 < B
  neg : ∀ k l, k ≤ n → SP k l → ∀ q r, l = q ++ r → q ≠ [] → Λ (vec (q.map ng)) = ng (Λ (vec q))
  comp : ∀ k l, k ≤ n → SP k l → ∀ q r r', l = q ++ r ++ r' → q ≠ [] → Λ (vec (q ++ r)) ≠ ng (Λ (vec q))
variable {n B : Nat} {Λ : (Nat → Int) → Lab} (g : Good Λ n B)
include g
theorem lb_ng {k : Nat} (hk : k ≤ n) : ∀ (r pre : List Lab), SP k (pre ++ r) → lb Λ (pre.map ng) (r.map ng) = (lb Λ pre r).map ng
  | [], _, _ => rfl
  | a :: r, pre, h => by
    have e : pre ++ a :: r = (pre ++ [a]) ++ r := by rw [List.append_assoc]; rfl
    have e2 : pre.map ng ++ [ng a] = (pre ++ [a]).map ng := by rw [List.map_append]; rfl
    show Λ (vec (pre.map ng ++ [ng a])) :: lb Λ (pre.map ng ++ [ng a]) (r.map ng) = ng (Λ (vec (pre ++ [a]))) :: (lb Λ (pre ++ [a]) r).map ng
    rw [e2, g.neg k _ hk h (pre ++ [a]) r e (by simp), lb_ng hk r (pre ++ [a]) (e ▸ h)]
theorem lb_lt {k : Nat} (hk : k ≤ n) {l : List Lab} (h : SP k l) : ∀ x ∈ lb Λ [] l, x.1 < B := fun x hx => by
  obtain ⟨q, r, hq, e, rfl⟩ := lb_mem Λ l [] x hx
  exact g.col k l hk h q r e hq
theorem lb_comp {k : Nat} (hk : k ≤ n) {l : List Lab} (h : SP k l) : ∀ j, (lb Λ [] l).count (j, true) = 0 ∨ (lb Λ [] l).count (j, false) = 0 := fun j => by
  rcases Nat.eq_zero_or_pos ((lb Λ [] l).count (j, true)) with h1 | h1
  · exact .inl h1
  rcases Nat.eq_zero_or_pos ((lb Λ [] l).count (j, false)) with h2 | h2
  · exact .inr h2
  exfalso
  obtain ⟨q, r, hq, e, e1⟩ := lb_mem Λ l [] _ (List.count_pos_iff.1 h1)
  obtain ⟨q', r', hq', e', e1'⟩ := lb_mem Λ l [] _ (List.count_pos_iff.1 h2)
  rw [List.nil_append] at e1 e1'
  rcases List.append_eq_append_iff.1 (e.symm.trans e') with ⟨t, h3, h4⟩ | ⟨t, h3, h4⟩
  · subst h3
    exact g.comp k l hk h q t r' (by rw [e, h4, List.append_assoc]) hq (by rw [← e1', ← e1]; rfl)
  · subst h3
    exact g.comp k l hk h q' t r (by rw [e', h4, List.append_assoc]) hq' (by rw [← e1', ← e1]; rfl)
/-- The doors of a chain: the labels without the j-th alternate. -/
theorem doors_count {k : Nat} (hk : k ≤ n) {l : List Lab} (h : SP k l) : ((List.range k).countP fun j => al B true ((lb Λ [] l).eraseIdx j)) % 2 = (b1 (al B true (lb Λ [] l)) + b1 (al B false (lb Λ [] l))) % 2 := by
  have h1 := fan_count (lb Λ [] l) (lb_comp g hk h) B 0 true (fun x hx => by have := lb_lt g hk h x hx; omega)
  have hl : (lb Λ [] l).length = k := by rw [lb_len, h.len]
  have h2 : ((List.range k).countP fun j => al B true ((lb Λ [] l).eraseIdx j)) = (lb Λ [] l).countP (G B 0 true (fun x => (lb Λ [] l).count x)) := by
    generalize lb Λ [] l = L at hl
    have e : L = (List.range k).map (fun j => L.getD j (0, true)) := by
      apply List.ext_getElem
      · simp [hl]
      · intro i h1 h2; simp [List.getElem?_eq_getElem h1]
    conv => rhs; rw [show L.countP (G B 0 true (fun x => L.count x)) = ((List.range k).map (fun j => L.getD j (0, true))).countP (G B 0 true (fun x => L.count x)) from congrArg _ e]
    rw [List.countP_map]
    refine List.countP_congr (fun j hj => ?_)
    have hj := List.mem_range.1 hj
    have hjl : j < L.length := by omega
    have hcnt : (fun x => (L.eraseIdx j).count x) = dec (fun x => L.count x) (L.getD j (0, true)) := by
      funext x
      have e1 : L = L.take j ++ L[j] :: L.drop (j + 1) := by rw [← List.drop_eq_getElem_cons hjl, List.take_append_drop]
      have e2 : L.eraseIdx j = L.take j ++ L.drop (j + 1) := List.eraseIdx_eq_take_drop_succ L j
      have e3 : L.getD j (0, true) = L[j] := by rw [List.getD_eq_getElem?_getD, List.getElem?_eq_getElem hjl]; rfl
      have e4 : L.count x = (L.take j).count x + ((L.drop (j + 1)).count x + if L[j] == x then 1 else 0) := by
        conv => lhs; rw [e1]
        rw [List.count_append, List.count_cons]
      rw [e3, e2, List.count_append]
      unfold dec
      by_cases hx : x = L[j]
      · rw [if_pos hx]
        show _ = L.count x - 1
        rw [e4, if_pos (beq_iff_eq.2 hx.symm)]; omega
      · rw [if_neg hx]
        show _ = L.count x
        rw [e4, if_neg (fun z => hx (beq_iff_eq.1 z).symm)]; omega
    simp only [Function.comp, G, al, hcnt, Nat.zero_le, decide_true, Bool.true_and]
  rw [h2]
  exact h1
end
end Go.Proofs.YtafjjbkkcedgnaaDoor.QFnHalfWindows.Neck
namespace Go.Proofs.YtafjjbkkcedgnaaDoor.QFnHalfWindows.Neck
section
variable {Λ : (Nat → Int) → Lab} {n B : Nat}
def alL (Λ : (Nat → Int) → Lab) (B : Nat) (q : Bool) (l : List Lab) : Bool := al B q (lb Λ [] l)
/-- The chains whose labels alternate. -/
def As (Λ : (Nat → Int) → Lab) (B k : Nat) : List (List Lab) := (Hs k).filter fun l => alL Λ B true l || alL Λ B false l
def okd (Λ : (Nat → Int) → Lab) (B : Nat) (l : List Lab) (j : Nat) : Bool := al B true ((lb Λ [] l).eraseIdx j)
def Ds (Λ : (Nat → Int) → Lab) (B k : Nat) : List (List Lab × Nat) := (Hs k).flatMap fun l => ((List.range k).filter (okd Λ B l)).map (l, ·)
theorem mem_Ds {k : Nat} {x : List Lab × Nat} : x ∈ Ds Λ B k ↔ HP k x.1 ∧ x.2 < k ∧ okd Λ B x.1 x.2 = true := by
  unfold Ds
  rw [List.mem_flatMap]
  constructor
  · rintro ⟨l, hl, h⟩
    obtain ⟨j, hj, rfl⟩ := List.mem_map.1 h
    obtain ⟨h1, h2⟩ := List.mem_filter.1 hj
    exact ⟨mem_Hs.1 hl, List.mem_range.1 h1, h2⟩
  · rintro ⟨h1, h2, h3⟩
    exact ⟨x.1, mem_Hs.2 h1, List.mem_map.2 ⟨x.2, List.mem_filter.2 ⟨List.mem_range.2 h2, h3⟩, rfl⟩⟩
theorem nodup_Ds (k : Nat) : (Ds Λ B k).Nodup := by
  refine List.pairwise_flatMap.2 ⟨fun l _ => nodup_map_on _ (List.Pairwise.filter _ List.nodup_range) (fun x _ y _ e => (Prod.mk.inj e).2), List.Pairwise.imp ?_ (nodup_Hs k)⟩
  intro a b hab x hx y hy e
  obtain ⟨j, _, rfl⟩ := List.mem_map.1 hx
  obtain ⟨j', _, rfl⟩ := List.mem_map.1 hy
  exact hab (Prod.mk.inj e).1
theorem al_both {L : List Lab} (hb : ∀ x ∈ L, x.1 < B) (h1 : al B true L = true) (h2 : al B false L = true) : L = [] := by
  cases L with
  | nil => rfl
  | cons x r =>
    exfalso
    have := alt_both B 0 _ h1 h2 x.1 x.2 (Nat.zero_le _) (by have := hb x List.mem_cons_self; omega)
    exact List.count_eq_zero.1 this List.mem_cons_self
theorem Ds_len (g : Good Λ n B) {k : Nat} (hk : k + 1 ≤ n) : (Ds Λ B (k + 1)).length % 2 = (As Λ B (k + 1)).length % 2 := by
  unfold Ds As
  have : ∀ M : List (List Lab), (∀ l ∈ M, HP (k + 1) l) → (M.flatMap fun l => ((List.range (k + 1)).filter (okd Λ B l)).map (l, ·)).length % 2 = (M.filter fun l => alL Λ B true l || alL Λ B false l).length % 2 := fun M => by
    induction M with
    | nil => intro _; rfl
    | cons l r ih =>
      intro h
      have ih := ih (fun x hx => h x (List.mem_cons_of_mem _ hx))
      have hl := h l List.mem_cons_self
      have hd := doors_count g hk hl.sp
      have hne : lb Λ [] l ≠ [] := fun e => by have := congrArg List.length e; rw [lb_len, hl.sp.len] at this; cases this
      have hx : ¬ (al B true (lb Λ [] l) = true ∧ al B false (lb Λ [] l) = true) := fun z => hne (al_both (lb_lt g hk hl.sp) z.1 z.2)
      rw [List.flatMap_cons, List.length_append, List.length_map, ← List.countP_eq_length_filter, List.filter_cons]
      have e : (List.countP (okd Λ B l) (List.range (k + 1))) % 2 = b1 (alL Λ B true l || alL Λ B false l) % 2 := by
        rw [show (List.countP (okd Λ B l) (List.range (k + 1))) % 2 = _ from hd]
        unfold alL
        cases h1 : al B true (lb Λ [] l) <;> cases h2 : al B false (lb Λ [] l) <;> simp_all [b1]
      cases hc : (alL Λ B true l || alL Λ B false l) with
      | true => rw [hc] at e; simp only [b1, if_true] at e; rw [if_pos rfl, List.length_cons]; omega
      | false => rw [hc] at e; simp [b1] at e; rw [if_neg (by decide)]; omega
  exact this _ (fun l hl => mem_Hs.1 hl)
/-- A door of the border: the last place alone, with its plus. -/
def bd (k : Nat) (x : List Lab × Nat) : Bool := decide (x.2 = k) && decide (x.1.getLast? = some (k, true))
def piv (k : Nat) (x : List Lab × Nat) : List Lab × Nat := if x.2 < k then (swp x.2 x.1, x.2) else (flp x.1, x.2)
theorem inner_even {k : Nat} : ((Ds Λ B (k + 1)).filter fun x => !bd k x).length % 2 = 0 := by
  refine even_invol (piv k) _ _ rfl (List.Pairwise.filter _ (nodup_Ds (k + 1))) (fun x hx => ?_)
  obtain ⟨hx1, hx2⟩ := List.mem_filter.1 hx
  obtain ⟨hH, hj, hok⟩ := mem_Ds.1 hx1
  obtain ⟨l, j⟩ := x
  by_cases hlt : j < k
  · obtain ⟨p, a, b, r, rfl, rfl⟩ := split_at (l := l) (j := j) (by rw [hH.sp.len]; omega)
    have hperm : List.Perm (p ++ a :: b :: r) (p ++ b :: a :: r) := List.Perm.append_left p (List.Perm.swap b a r)
    have e : piv k (p ++ a :: b :: r, p.length) = (p ++ b :: a :: r, p.length) := by unfold piv; rw [if_pos hlt]; show (swp _ _, _) = _; rw [swp_at]
    have e2 : piv k (p ++ b :: a :: r, p.length) = (p ++ a :: b :: r, p.length) := by unfold piv; rw [if_pos hlt]; show (swp _ _, _) = _; rw [swp_at]
    rw [e, e2]
    refine ⟨List.mem_filter.2 ⟨mem_Ds.2 ⟨⟨hH.sp.perm hperm, hH.up.imp id (hperm.mem_iff.1)⟩, hj, ?_⟩, ?_⟩, rfl, fun z => ?_⟩
    · unfold okd at hok ⊢
      rw [← facet_swap]; exact hok
    · unfold bd
      rw [decide_eq_false (show ¬ p.length = k by omega)]; rfl
    · have h1 := List.append_cancel_left (Prod.mk.inj z).1
      have hn := hH.sp.nodup
      injection h1 with h2 _
      subst h2
      rw [List.map_append, List.map_cons, List.map_cons] at hn
      have := (List.nodup_append.1 hn).2.1
      rw [List.nodup_cons] at this
      exact this.1 List.mem_cons_self
  · have hjk : j = k := by have : j < k + 1 := hj; omega
    subst hjk
    obtain ⟨p, ⟨c, s⟩, rfl, hp⟩ := split_last hH.sp.len
    have e : ∀ s, piv j (p ++ [(c, s)], j) = (p ++ [(c, !s)], j) := fun s => by unfold piv; rw [if_neg hlt]; show (flp _, _) = _; rw [flp_at]; rfl
    have hbd : ∀ s, bd j (p ++ [(c, s)], j) = decide (c = j ∧ s = true) := fun s => by
      unfold bd
      rw [decide_eq_true rfl, Bool.true_and]
      have : (p ++ [(c, s)]).getLast? = some (c, s) := by simp
      rw [this]
      simp
    rw [e, e, Bool.not_not]
    have hcj : c ≠ j := fun ec => by
      subst ec
      cases s with
      | true => rw [hbd] at hx2; simp at hx2
      | false =>
        rcases hH.up with h0 | h0
        · omega
        · rw [Nat.add_sub_cancel] at h0
          exact hH.sp.one h0 (by simp)
    have hsp : SP (j + 1) (p ++ [(c, !s)]) := ⟨by rw [List.length_append, hp]; rfl, by have := hH.sp.nodup; rw [List.map_append] at this ⊢; exact this, fun x hx => by
      rcases List.mem_append.1 hx with h | h
      · exact hH.sp.lt x (List.mem_append_left _ h)
      · have : x = (c, !s) := by simpa using h
        rw [this]; exact hH.sp.lt (c, s) (by simp)⟩
    refine ⟨List.mem_filter.2 ⟨mem_Ds.2 ⟨⟨hsp, ?_⟩, hj, ?_⟩, ?_⟩, rfl, fun z => ?_⟩
    · refine hH.up.imp id (fun h => ?_)
      rw [Nat.add_sub_cancel] at h ⊢
      rcases List.mem_append.1 h with h | h
      · exact List.mem_append_left _ h
      · have : (j, true) = (c, s) := by simpa using h
        exact absurd (congrArg Prod.fst this).symm hcj
    · unfold okd at hok ⊢
      rw [← hp] at hok ⊢
      rw [facet_last] at hok ⊢
      exact hok
    · rw [hbd, decide_eq_false (fun z => hcj z.1)]; rfl
    · have h1 := List.append_cancel_left (Prod.mk.inj z).1
      injection h1 with h2 _
      injection h2 with _ h3
      cases s <;> cases h3
def toA (k : Nat) (x : List Lab × Nat) : List Lab := if k = 0 ∨ (k - 1, true) ∈ x.1.dropLast then x.1.dropLast else x.1.dropLast.map ng
def toD (Λ : (Nat → Int) → Lab) (B k : Nat) (l : List Lab) : List Lab × Nat := if alL Λ B true l = true then (l ++ [(k, true)], k) else (l.map ng ++ [(k, true)], k)
theorem HP.snoc {k : Nat} {l : List Lab} (h : SP k l) : HP (k + 1) (l ++ [(k, true)]) := by
  refine ⟨⟨by rw [List.length_append, h.len]; rfl, ?_, fun x hx => ?_⟩, .inr (by simp)⟩
  · rw [List.map_append]
    refine List.nodup_append.2 ⟨h.nodup, by simp, fun a ha b hb e => ?_⟩
    obtain ⟨y, hy, rfl⟩ := List.mem_map.1 ha
    have := h.lt y hy
    have hb : b = k := by simpa using hb
    omega
  · rcases List.mem_append.1 hx with h1 | h1
    · have := h.lt x h1; omega
    · have : x = (k, true) := by simpa using h1
      rw [this]; exact Nat.lt_succ_self k
theorem okd_snoc (p : List Lab) (x : Lab) {k : Nat} (h : p.length = k) : okd Λ B (p ++ [x]) k = alL Λ B true p := by
  unfold okd alL
  rw [← h, facet_last]
theorem alL_ng (g : Good Λ n B) {k : Nat} (hk : k ≤ n) {l : List Lab} (h : SP k l) (q : Bool) : alL Λ B q (l.map ng) = alL Λ B (!q) l := by
  have := lb_ng g hk l [] h
  unfold alL
  rw [show lb Λ [] (l.map ng) = (lb Λ [] l).map ng from this, al_ng]
theorem border_len (g : Good Λ n B) {k : Nat} (hk : k + 1 ≤ n) : ((Ds Λ B (k + 1)).filter fun x => bd k x).length = (As Λ B k).length := by
  refine len_of_bij (List.Pairwise.filter _ (nodup_Ds (k + 1))) (List.Pairwise.filter _ (nodup_Hs k)) (toA k) (toD Λ B k) (fun x hx => ?_) (fun l hl => ?_)
  · obtain ⟨hx1, hx2⟩ := List.mem_filter.1 hx
    obtain ⟨hH, hj, hok⟩ := mem_Ds.1 hx1
    obtain ⟨l, j⟩ := x
    unfold bd at hx2
    obtain ⟨hj1, hlast⟩ := Bool.and_eq_true_iff.1 hx2
    have hj1 : j = k := of_decide_eq_true hj1
    subst hj1
    obtain ⟨p, x, rfl, hp⟩ := split_last hH.sp.len
    have hx : x = (j, true) := by
      have := of_decide_eq_true hlast
      simpa using this
    subst hx
    have hok2 : alL Λ B true p = true := by
      have := okd_snoc (Λ := Λ) (B := B) p (j, true) hp
      rw [← this]; exact hok
    have hsp : SP j p := ⟨hp, by have := hH.sp.nodup; rw [List.map_append] at this; exact (List.nodup_append.1 this).1, fun y hy => by
      have h1 := hH.sp.lt y (List.mem_append_left _ hy)
      have hn := hH.sp.nodup
      rw [List.map_append] at hn
      have h2 := (List.nodup_append.1 hn).2.2 y.1 (List.mem_map.2 ⟨y, hy, rfl⟩) j (by simp)
      omega⟩
    have ed : (p ++ [(j, true)]).dropLast = p := by simp
    unfold toA
    simp only [ed]
    by_cases hc : j = 0 ∨ (j - 1, true) ∈ p
    · rw [if_pos hc]
      refine ⟨List.mem_filter.2 ⟨mem_Hs.2 ⟨hsp, hc⟩, by rw [hok2]; rfl⟩, ?_⟩
      unfold toD
      rw [if_pos hok2]
    · rw [if_neg hc]
      have hj0 : j ≠ 0 := fun e => hc (.inl e)
      have hmem : (j - 1, false) ∈ p := by
        -- the place j - 1 is there
        have hall : ∀ i, i < j → i ∈ p.map Prod.fst := fun i hi => by
          have h1 := len_le (List.range j) (p.map Prod.fst)
          refine Classical.byContradiction fun hno => ?_
          have h2 := len_le (p.map Prod.fst) ((List.range j).erase i) hsp.nodup (fun z hz => by
            obtain ⟨y, hy, rfl⟩ := List.mem_map.1 hz
            exact (List.mem_erase_of_ne (fun e => hno (by rw [← e]; exact List.mem_map.2 ⟨y, hy, rfl⟩))).2 (List.mem_range.2 (hsp.lt y hy)))
          rw [List.length_map, List.length_erase_of_mem (List.mem_range.2 hi), List.length_range, hsp.len] at h2
          omega
        obtain ⟨⟨a, s⟩, ha, e⟩ := List.mem_map.1 (hall (j - 1) (by omega))
        have e : a = j - 1 := e
        subst e
        cases s with
        | true => exact absurd (.inr ha) hc
        | false => exact ha
      have hnt : alL Λ B true (p.map ng) = false := by
        rw [alL_ng g (by omega) hsp]
        cases h2 : alL Λ B (!true) p with
        | false => rfl
        | true =>
          have := al_both (lb_lt g (by omega) hsp) hok2 h2
          have h3 := congrArg List.length this
          rw [lb_len, hp] at h3
          exact absurd h3 hj0
      refine ⟨List.mem_filter.2 ⟨mem_Hs.2 ⟨hsp.ng, .inr (ng_mem.2 hmem)⟩, ?_⟩, ?_⟩
      · have : alL Λ B false (p.map ng) = true := by rw [alL_ng g (by omega) hsp]; exact hok2
        rw [this, Bool.or_true]
      · unfold toD
        rw [if_neg (by rw [hnt]; decide), ngng]
  · obtain ⟨h1, h2⟩ := List.mem_filter.1 hl
    have hH := mem_Hs.1 h1
    unfold toD
    by_cases hc : alL Λ B true l = true
    · rw [if_pos hc]
      refine ⟨List.mem_filter.2 ⟨mem_Ds.2 ⟨HP.snoc hH.sp, Nat.lt_succ_self k, by rw [okd_snoc _ _ hH.sp.len]; exact hc⟩, by unfold bd; simp⟩, ?_⟩
      unfold toA
      have ed : (l ++ [(k, true)]).dropLast = l := by simp
      simp only [ed]
      rw [if_pos hH.up]
    · rw [if_neg hc]
      have hf : alL Λ B false l = true := by
        cases h3 : alL Λ B true l with
        | true => exact absurd h3 hc
        | false => rw [h3, Bool.false_or] at h2; exact h2
      have hk0 : k ≠ 0 := fun e => by
        subst e
        have : l = [] := List.eq_nil_of_length_eq_zero hH.sp.len
        subst this
        apply hc
        have : ∀ (m i : Nat) (q : Bool), alt m i q (fun x => ([] : List Lab).count x) = true := fun m => by
          induction m with
          | zero => intro i q; rfl
          | succ m ih => intro i q; rw [alt_succ, if_pos (by simp)]; exact ih (i + 1) q
        exact this B 0 true
      refine ⟨List.mem_filter.2 ⟨mem_Ds.2 ⟨HP.snoc hH.sp.ng, Nat.lt_succ_self k, by rw [okd_snoc _ _ hH.sp.ng.len, alL_ng g (by omega) hH.sp]; exact hf⟩, by unfold bd; simp⟩, ?_⟩
      unfold toA
      have ed : (l.map ng ++ [(k, true)]).dropLast = l.map ng := by simp
      simp only [ed]
      rw [if_neg, ngng]
      rintro (h3 | h3)
      · exact hk0 h3
      · rcases hH.up with h4 | h4
        · exact hk0 h4
        · exact hH.sp.one h4 (ng_mem.1 h3)
theorem As_odd (g : Good Λ n B) : ∀ k, k ≤ n → (As Λ B k).length % 2 = 1
  | 0, _ => by
    have hH : Hs 0 = [[]] := by unfold Hs; simp [tup]; exact ⟨⟨rfl, by simp, fun x hx => by cases hx⟩, .inl rfl⟩
    have : ∀ (m i : Nat) (q : Bool), alt m i q (fun x => ([] : List Lab).count x) = true := fun m => by
      induction m with
      | zero => intro i q; rfl
      | succ m ih => intro i q; rw [alt_succ, if_pos (by simp)]; exact ih (i + 1) q
    have e : alL Λ B true [] = true := this B 0 true
    unfold As
    rw [hH, List.filter_cons, e]
    rfl
  | k + 1, hk => by
    have ih := As_odd g k (by omega)
    have h1 := Ds_len g hk
    have h2 := inner_even (Λ := Λ) (B := B) (k := k)
    have h3 := border_len g hk
    have h4 := List.length_eq_countP_add_countP (bd k) (l := Ds Λ B (k + 1))
    rw [List.countP_eq_length_filter, List.countP_eq_length_filter] at h4
    have h5 : (Ds Λ B (k + 1)).filter (fun a => decide ¬ bd k a = true) = (Ds Λ B (k + 1)).filter (fun x => !bd k x) := List.filter_congr (fun x _ => by cases bd k x <;> rfl)
    rw [h5] at h4
    have h6 : (Ds Λ B (k + 1)).filter (bd k) = (Ds Λ B (k + 1)).filter (fun x => bd k x) := rfl
    rw [h6, h3] at h4
    omega
/-- Fan's lemma: labels of signed places need as many kinds as there are places. -/
theorem fan (g : Good Λ n B) (C : List Nat) (hC : ∀ k l, k ≤ n → SP k l → ∀ q r, l = q ++ r → q ≠ [] → (Λ (vec q)).1 ∈ C) : n ≤ C.length := by
  have h := As_odd g n (Nat.le_refl n)
  have hpos : 0 < (As Λ B n).length := by omega
  obtain ⟨l, hl⟩ := List.exists_mem_of_length_pos hpos
  obtain ⟨h1, h2⟩ := List.mem_filter.1 hl
  have hH := mem_Hs.1 h1
  have hle : ∀ j, (lb Λ [] l).count (j, true) + (lb Λ [] l).count (j, false) ≤ 1 := fun j => by
    rcases Nat.lt_or_ge j B with hj | hj
    · rcases Bool.or_eq_true_iff.1 h2 with h3 | h3
      · exact alt_le B 0 _ _ h3 j (Nat.zero_le _) (by omega)
      · exact alt_le B 0 _ _ h3 j (Nat.zero_le _) (by omega)
    · have hz : ∀ s, (lb Λ [] l).count (j, s) = 0 := fun s => List.count_eq_zero.2 (fun hm => by have := lb_lt g (Nat.le_refl n) hH.sp _ hm; omega)
      rw [hz, hz]; omega
  have hn : ((lb Λ [] l).map Prod.fst).Nodup := List.nodup_iff_count.2 (fun j => by
    have := hle j
    have e : ∀ L : List Lab, (L.map Prod.fst).count j = L.count (j, true) + L.count (j, false) := fun L => by
      induction L with
      | nil => rfl
      | cons x r ih =>
        obtain ⟨a, s⟩ := x
        rw [List.map_cons, List.count_cons, List.count_cons, List.count_cons, ih]
        by_cases ha : a = j
        · subst ha; cases s <;> simp <;> omega
        · cases s <;> simp [ha]
    rw [e]; exact this)
  have := len_le ((lb Λ [] l).map Prod.fst) C hn (fun x hx => by
    obtain ⟨y, hy, rfl⟩ := List.mem_map.1 hx
    obtain ⟨q, r, hq, e, rfl⟩ := lb_mem Λ l [] y hy
    exact hC n l (Nat.le_refl n) hH.sp q r e hq)
  rw [List.length_map, lb_len, hH.sp.len] at this
  exact this
end
end Go.Proofs.YtafjjbkkcedgnaaDoor.QFnHalfWindows.Neck
namespace Go.Proofs.YtafjjbkkcedgnaaDoor.QFnHalfWindows.Neck
/-! ### how often signs alternate -/
/-- How often the signs of the d places from u on alternate, b the sign ahead (0 at the start). -/
def ac (x : Nat → Int) : Nat → Nat → Int → Nat
  | 0, _, _ => 0
  | d + 1, u, b => if x u = 0 ∨ x u = b then ac x d (u + 1) b else ac x d (u + 1) (x u) + 1
/-- The first sign. -/
def fs (x : Nat → Int) : Nat → Nat → Int
  | 0, _ => 0
  | d + 1, u => if x u = 0 then fs x d (u + 1) else x u
theorem ac_lip (x : Nat → Int) : ∀ d u b c, ac x d u b ≤ ac x d u c + 1
  | 0, _, _, _ => Nat.zero_le _
  | d + 1, u, b, c => by
    unfold ac
    have h1 := ac_lip x d (u + 1) b c
    have h2 := ac_lip x d (u + 1) b (x u)
    have h3 := ac_lip x d (u + 1) (x u) c
    by_cases h0 : x u = 0
    · rw [if_pos (.inl h0), if_pos (.inl h0)]; exact h1
    · by_cases hb : x u = b <;> by_cases hc : x u = c
      · rw [if_pos (.inr hb), if_pos (.inr hc)]; exact h1
      · rw [if_pos (.inr hb), if_neg (by rintro (h | h); exact h0 h; exact hc h)]; omega
      · rw [if_neg (by rintro (h | h); exact h0 h; exact hb h), if_pos (.inr hc), hc]; exact Nat.le_refl _
      · rw [if_neg (by rintro (h | h); exact h0 h; exact hb h), if_neg (by rintro (h | h); exact h0 h; exact hc h)]; omega
theorem ac_mono {x y : Nat → Int} (h : ∀ u, x u ≠ 0 → y u = x u) : ∀ d u b, ac x d u b ≤ ac y d u b
  | 0, _, _ => Nat.le_refl _
  | d + 1, u, b => by
    unfold ac
    have h1 := ac_mono h d (u + 1) b
    by_cases h0 : x u = 0
    · rw [if_pos (.inl h0)]
      by_cases hy : y u = 0 ∨ y u = b
      · rw [if_pos hy]; exact h1
      · rw [if_neg hy]
        have := ac_lip x d (u + 1) b (y u)
        have := ac_mono h d (u + 1) (y u)
        omega
    · rw [h u h0]
      by_cases hb : x u = 0 ∨ x u = b
      · rw [if_pos hb, if_pos hb]; exact h1
      · rw [if_neg hb, if_neg hb]
        have := ac_mono h d (u + 1) (x u)
        omega
theorem fs_other (x : Nat → Int) : ∀ d u c, fs x d u ≠ 0 → fs x d u ≠ c → ac x d u c = ac x d u 0
  | 0, _, _, _, _ => rfl
  | d + 1, u, c, h1, h2 => by
    unfold fs at h1 h2
    unfold ac
    by_cases h0 : x u = 0
    · rw [if_pos h0] at h1 h2
      rw [if_pos (.inl h0), if_pos (.inl h0)]
      exact fs_other x d (u + 1) c h1 h2
    · rw [if_neg h0] at h1 h2
      rw [if_neg (by rintro (h | h); exact h0 h; exact h2 h), if_neg (by rintro (h | h); exact h0 h; exact h0 h)]
theorem fs_same (x : Nat → Int) : ∀ d u, fs x d u ≠ 0 → ac x d u (fs x d u) + 1 = ac x d u 0
  | 0, _, h => absurd rfl h
  | d + 1, u, h => by
    by_cases h0 : x u = 0
    · have e : fs x (d + 1) u = fs x d (u + 1) := if_pos h0
      rw [e] at h ⊢
      unfold ac
      rw [if_pos (.inl h0), if_pos (.inl h0)]
      exact fs_same x d (u + 1) h
    · have e : fs x (d + 1) u = x u := if_neg h0
      rw [e]
      unfold ac
      rw [if_pos (.inr rfl), if_neg (by rintro (h | h); exact h0 h; exact h0 h)]
theorem fs_lt {x y : Nat → Int} (h : ∀ u, x u ≠ 0 → y u = x u) (d u : Nat) (h1 : fs x d u ≠ 0) (h2 : fs y d u ≠ 0) (h3 : fs x d u ≠ fs y d u) : ac x d u 0 < ac y d u 0 := by
  have a := fs_other x d u (fs y d u) h1 h3
  have b := ac_mono h d u (fs y d u)
  have c := fs_same y d u h2
  omega
theorem ac_neg (x : Nat → Int) : ∀ d u b, ac (fun v => -x v) d u (-b) = ac x d u b
  | 0, _, _ => rfl
  | d + 1, u, b => by
    have h1 := ac_neg x d (u + 1) b
    have h2 := ac_neg x d (u + 1) (x u)
    unfold ac
    by_cases h : x u = 0 ∨ x u = b
    · rw [if_pos h, if_pos (by omega), h1]
    · rw [if_neg h, if_neg (by omega), h2]
theorem fs_neg (x : Nat → Int) : ∀ d u, fs (fun v => -x v) d u = -fs x d u
  | 0, _ => rfl
  | d + 1, u => by
    unfold fs
    by_cases h : x u = 0
    · rw [if_pos h, if_pos (by omega), fs_neg x d]
    · rw [if_neg h, if_neg (by omega)]
theorem fs_unit (x : Nat → Int) (h : ∀ u, x u = 0 ∨ x u = 1 ∨ x u = -1) : ∀ d u, fs x d u = 0 ∨ fs x d u = 1 ∨ fs x d u = -1
  | 0, _ => .inl rfl
  | d + 1, u => by
    unfold fs
    split
    · exact fs_unit x h d (u + 1)
    · exact h u
theorem fs_some (x : Nat → Int) : ∀ d u v, u ≤ v → v < u + d → x v ≠ 0 → fs x d u ≠ 0
  | 0, u, v, h1, h2, _ => by omega
  | d + 1, u, v, h1, h2, h3 => by
    unfold fs
    by_cases h : x u = 0
    · rw [if_pos h]
      refine fs_some x d (u + 1) v ?_ (by omega) h3
      rcases Nat.lt_or_ge u v with h4 | h4
      · exact h4
      · have : u = v := by omega
        subst this
        exact absurd h h3
    · rw [if_neg h]; exact h
theorem ac_pos (x : Nat → Int) (d u : Nat) (h : fs x d u ≠ 0) : 0 < ac x d u 0 := by have := fs_same x d u h; omega
/-- Every second sign turned. -/
def tw (x : Nat → Int) : Nat → Int := fun u => if u % 2 = 0 then x u else -x u
theorem tw_zero (x : Nat → Int) (u : Nat) : tw x u = 0 ↔ x u = 0 := by unfold tw; split <;> omega
theorem tw_neg (x : Nat → Int) : tw (fun u => -x u) = fun u => -tw x u := by funext u; unfold tw; split <;> rfl
/-- One after the other: either the signs alternate or the turned ones do. -/
theorem ac_tw {y : Nat → Int} : ∀ d u, (∀ v, u ≤ v → v < u + 1 + d → y v = 1 ∨ y v = -1) → ac y d (u + 1) (y u) + ac (tw y) d (u + 1) (tw y u) = d
  | 0, _, _ => rfl
  | d + 1, u, h => by
    have h0 := h u (Nat.le_refl _) (by omega)
    have h1 := h (u + 1) (by omega) (by omega)
    have ih := ac_tw (y := y) d (u + 1) (fun v h2 h3 => h v (by omega) (by omega))
    unfold ac
    by_cases e : y (u + 1) = y u
    · have e2 : ¬ (tw y (u + 1) = 0 ∨ tw y (u + 1) = tw y u) := by unfold tw; split <;> split <;> omega
      rw [if_pos (.inr e), if_neg e2, ← e]; omega
    · have e2 : tw y (u + 1) = tw y u := by unfold tw; split <;> split <;> omega
      rw [if_neg (by omega), if_pos (.inr e2), ← e2]; omega
theorem ac_full {y : Nat → Int} {n : Nat} (hn : 0 < n) (h : ∀ v, v < n → y v = 1 ∨ y v = -1) : ac y n 0 0 + ac (tw y) n 0 0 = n + 1 := by
  obtain ⟨d, rfl⟩ : ∃ d, n = d + 1 := ⟨n - 1, by omega⟩
  have h0 := h 0 (by omega)
  have := ac_tw (y := y) d 0 (fun v _ h2 => h v (by omega))
  unfold ac
  rw [if_neg (by omega), if_neg (by rw [tw_zero]; omega)]
  omega
/-! ### counting -/
def ct (f : Nat → Bool) : Nat → Nat
  | 0 => 0
  | n + 1 => ct f n + if f n = true then 1 else 0
theorem ct_congr {f g : Nat → Bool} : ∀ n, (∀ u, u < n → f u = g u) → ct f n = ct g n
  | 0, _ => rfl
  | n + 1, h => by
    unfold ct
    rw [ct_congr n (fun u hu => h u (by omega)), h n (by omega)]
theorem ct_false : ∀ n, ct (fun _ => false) n = 0
  | 0 => rfl
  | n + 1 => by unfold ct; rw [ct_false n]; rfl
theorem ct_mono {f g : Nat → Bool} : ∀ n, (∀ u, u < n → f u = true → g u = true) → ct f n ≤ ct g n
  | 0, _ => Nat.le_refl _
  | n + 1, h => by
    unfold ct
    have := ct_mono n (fun u hu => h u (by omega))
    have := h n (by omega)
    split <;> split <;> simp_all <;> omega
theorem ct_one {f g : Nat → Bool} : ∀ n u, u < n → (∀ v, v < n → v ≠ u → f v = g v) → f u = false → g u = true → ct g n = ct f n + 1
  | 0, u, h, _, _, _ => by omega
  | n + 1, u, h, h1, h2, h3 => by
    unfold ct
    rcases Nat.lt_or_ge u n with h4 | h4
    · rw [ct_one n u h4 (fun v hv => h1 v (by omega)) h2 h3, h1 n (by omega) (by omega)]; omega
    · have : u = n := by omega
      subst this
      rw [ct_congr u (fun v hv => (h1 v (by omega) (by omega)).symm), h2, h3]; simp
theorem ct_add {f g k : Nat → Bool} : ∀ n, (∀ u, u < n → (if f u = true then 1 else 0) + (if g u = true then 1 else 0) = (if k u = true then 1 else 0 : Nat)) → ct f n + ct g n = ct k n
  | 0, _ => rfl
  | n + 1, h => by
    have := ct_add n (fun u hu => h u (by omega))
    have := h n (by omega)
    unfold ct
    omega
section
variable (kind : Nat → Nat)
def P (x : Nat → Int) (n i : Nat) : Nat := ct (fun u => kind u == i && x u == 1) n
def Q (x : Nat → Int) (n i : Nat) : Nat := ct (fun u => kind u == i && x u == -1) n
def Z (x : Nat → Int) (n i : Nat) : Nat := ct (fun u => kind u == i && x u == 0) n
def T (n i : Nat) : Nat := ct (fun u => kind u == i) n
theorem PQZ {x : Nat → Int} (hx : ∀ u, x u = 0 ∨ x u = 1 ∨ x u = -1) (n i : Nat) : P kind x n i + Q kind x n i + Z kind x n i = T kind n i := by
  have h1 : P kind x n i + Q kind x n i = ct (fun u => kind u == i && !(x u == 0)) n := ct_add n (fun u _ => by
    cases kind u == i
    · rfl
    · rcases hx u with h | h | h <;> rw [h] <;> rfl)
  rw [h1]
  exact ct_add n (fun u _ => by cases kind u == i <;> cases x u == 0 <;> rfl)
theorem P_neg (x : Nat → Int) (n i : Nat) : P kind (fun u => -x u) n i = Q kind x n i := ct_congr n (fun u _ => by
  show (kind u == i && -x u == 1) = (kind u == i && x u == -1)
  have : (-x u == 1) = (x u == -1) := by rw [Bool.eq_iff_iff, beq_iff_eq, beq_iff_eq]; omega
  rw [this])
theorem Q_neg (x : Nat → Int) (n i : Nat) : Q kind (fun u => -x u) n i = P kind x n i := ct_congr n (fun u _ => by
  show (kind u == i && -x u == -1) = (kind u == i && x u == 1)
  have : (-x u == -1) = (x u == 1) := by rw [Bool.eq_iff_iff, beq_iff_eq, beq_iff_eq]; omega
  rw [this])
theorem P_le {x y : Nat → Int} (h : ∀ u, x u ≠ 0 → y u = x u) (n i : Nat) : P kind x n i ≤ P kind y n i := ct_mono n (fun u _ hu => by
  obtain ⟨h1, h2⟩ := Bool.and_eq_true_iff.1 hu
  have h3 : x u = 1 := beq_iff_eq.1 h2
  show (kind u == i && y u == 1) = true
  rw [h1, h u (by omega), h3]; rfl)
theorem Q_le {x y : Nat → Int} (h : ∀ u, x u ≠ 0 → y u = x u) (n i : Nat) : Q kind x n i ≤ Q kind y n i := ct_mono n (fun u _ hu => by
  obtain ⟨h1, h2⟩ := Bool.and_eq_true_iff.1 hu
  have h3 : x u = -1 := beq_iff_eq.1 h2
  show (kind u == i && y u == -1) = true
  rw [h1, h u (by omega), h3]; rfl)
def put (x : Nat → Int) (u : Nat) (s : Int) : Nat → Int := fun v => if v = u then s else x v
theorem put_ge {x : Nat → Int} {u : Nat} {s : Int} (h : x u = 0) : ∀ v, x v ≠ 0 → put x u s v = x v := fun v hv => if_neg (fun e => hv (by rw [e]; exact h))
/-- What has no excess is completed without one. -/
theorem complete (half : Nat → Nat) (n : Nat) (hh : ∀ u, u < n → T kind n (kind u) = 2 * half (kind u)) : ∀ (z : Nat) (x : Nat → Int), ct (fun u => x u == 0) n = z → (∀ u, x u = 0 ∨ x u = 1 ∨ x u = -1) →
    (∀ u, u < n → P kind x n (kind u) ≤ half (kind u) ∧ Q kind x n (kind u) ≤ half (kind u)) →
    ∃ y : Nat → Int, (∀ u, x u ≠ 0 → y u = x u) ∧ (∀ u, y u = 0 ∨ y u = 1 ∨ y u = -1) ∧ (∀ u, u < n → y u = 1 ∨ y u = -1) ∧ ∀ u, u < n → P kind y n (kind u) = half (kind u) ∧ Q kind y n (kind u) = half (kind u)
  | 0, x, hz, hx, hb => by
    have hno : ∀ m, ct (fun u => x u == 0) m = 0 → ∀ u, u < m → x u ≠ 0 := fun m => by
      induction m with
      | zero => intro _ u hu; omega
      | succ m ih =>
        intro h u hu
        unfold ct at h
        rcases Nat.lt_or_ge u m with h1 | h1
        · exact ih (by omega) u h1
        · have : u = m := by omega
          subst this
          intro e
          simp [e] at h
    have hn := hno n hz
    refine ⟨x, fun _ _ => rfl, hx, fun u hu => (hx u).resolve_left (hn u hu), fun u hu => ?_⟩
    have h1 := PQZ kind hx n (kind u)
    have h2 : Z kind x n (kind u) = 0 := by
      have : Z kind x n (kind u) = ct (fun _ => false) n := ct_congr n (fun v hv => by
        have : (x v == 0) = false := beq_eq_false_iff_ne.2 (hn v hv)
        show (kind v == kind u && x v == 0) = false
        rw [this, Bool.and_false])
      rw [this, ct_false]
    have h3 := hh u hu
    have h4 := hb u hu
    omega
  | z + 1, x, hz, hx, hb => by
    have hex : ∀ m, ct (fun u => x u == 0) m ≠ 0 → ∃ u, u < m ∧ x u = 0 := fun m => by
      induction m with
      | zero => intro h; exact absurd rfl h
      | succ m ih =>
        intro h
        by_cases h1 : x m = 0
        · exact ⟨m, by omega, h1⟩
        · unfold ct at h
          have : (x m == 0) = false := beq_eq_false_iff_ne.2 h1
          rw [this] at h
          obtain ⟨u, hu, e⟩ := ih (by simpa using h)
          exact ⟨u, by omega, e⟩
    obtain ⟨u, hu, e⟩ := hex n (by omega)
    have hstep : ∀ s : Int, (s = 1 ∨ s = -1) → (∀ v, v < n → P kind (put x u s) n (kind v) ≤ half (kind v) ∧ Q kind (put x u s) n (kind v) ≤ half (kind v)) →
        ∃ y : Nat → Int, (∀ u, x u ≠ 0 → y u = x u) ∧ (∀ u, y u = 0 ∨ y u = 1 ∨ y u = -1) ∧ (∀ u, u < n → y u = 1 ∨ y u = -1) ∧ ∀ u, u < n → P kind y n (kind u) = half (kind u) ∧ Q kind y n (kind u) = half (kind u) := fun s hs hb2 => by
      have hz2 : ct (fun v => put x u s v == 0) n = z := by
        have := ct_one (f := fun v => put x u s v == 0) (g := fun v => x v == 0) n u hu (fun v _ hv => by show (put x u s v == 0) = (x v == 0); unfold put; rw [if_neg hv]) (by show (put x u s u == 0) = false; unfold put; rw [if_pos rfl]; rcases hs with h | h <;> rw [h] <;> rfl) (by show (x u == 0) = true; rw [e]; rfl)
        omega
      have hx2 : ∀ v, put x u s v = 0 ∨ put x u s v = 1 ∨ put x u s v = -1 := fun v => by unfold put; split; exact .inr hs; exact hx v
      obtain ⟨y, h1, h2, h3, h4⟩ := complete half n hh z (put x u s) hz2 hx2 hb2
      exact ⟨y, fun v hv => (h1 v (by rw [put_ge e v hv]; exact hv)).trans (put_ge e v hv), h2, h3, h4⟩
    have hPs : ∀ (s : Int) i, (s = 1 ∨ s = -1) → P kind (put x u s) n i = P kind x n i + (if kind u = i ∧ s = 1 then 1 else 0) ∧ Q kind (put x u s) n i = Q kind x n i + (if kind u = i ∧ s = -1 then 1 else 0) := fun s i hs => by
      constructor
      · by_cases hc : kind u = i ∧ s = 1
        · rw [if_pos hc]
          exact ct_one n u hu (fun v _ hv => by show (kind v == i && x v == 1) = (kind v == i && put x u s v == 1); unfold put; rw [if_neg hv]) (by show (kind u == i && x u == 1) = false; rw [e]; simp) (by show (kind u == i && put x u s u == 1) = true; unfold put; rw [if_pos rfl, hc.1, hc.2]; simp)
        · rw [if_neg hc]
          refine ct_congr n (fun v _ => ?_)
          show (kind v == i && put x u s v == 1) = (kind v == i && x v == 1)
          unfold put
          by_cases hv : v = u
          · subst hv
            rw [if_pos rfl, e]
            by_cases hk : kind v = i
            · have : s = -1 := hs.resolve_left (fun z => hc ⟨hk, z⟩)
              rw [this]; simp
            · have : (kind v == i) = false := beq_eq_false_iff_ne.2 hk
              rw [this]; rfl
          · rw [if_neg hv]
      · by_cases hc : kind u = i ∧ s = -1
        · rw [if_pos hc]
          exact ct_one n u hu (fun v _ hv => by show (kind v == i && x v == -1) = (kind v == i && put x u s v == -1); unfold put; rw [if_neg hv]) (by show (kind u == i && x u == -1) = false; rw [e]; simp) (by show (kind u == i && put x u s u == -1) = true; unfold put; rw [if_pos rfl, hc.1, hc.2]; simp)
        · rw [if_neg hc]
          refine ct_congr n (fun v _ => ?_)
          show (kind v == i && put x u s v == -1) = (kind v == i && x v == -1)
          unfold put
          by_cases hv : v = u
          · subst hv
            rw [if_pos rfl, e]
            by_cases hk : kind v = i
            · have : s = 1 := hs.resolve_right (fun z => hc ⟨hk, z⟩)
              rw [this]; simp
            · have : (kind v == i) = false := beq_eq_false_iff_ne.2 hk
              rw [this]; rfl
          · rw [if_neg hv]
    have h1 := PQZ kind hx n (kind u)
    have h2 : 0 < Z kind x n (kind u) := by
      have := ct_one (f := fun _ => false) (g := fun v => decide (v = u)) n u hu (fun v _ hv => (decide_eq_false hv).symm) rfl (decide_eq_true rfl)
      have h3 : ct (fun v => decide (v = u)) n ≤ Z kind x n (kind u) := ct_mono n (fun v _ hv => by
        have : v = u := of_decide_eq_true hv
        subst this
        show (kind v == kind v && x v == 0) = true
        rw [e]; simp)
      omega
    have h3 := hh u hu
    have h4 := hb u hu
    by_cases hc : P kind x n (kind u) < half (kind u)
    · refine hstep 1 (.inl rfl) (fun v hv => ?_)
      have h5 := hPs 1 (kind v) (.inl rfl)
      have h6 := hb v hv
      rw [h5.1, h5.2]
      by_cases hk : kind u = kind v
      · rw [if_pos ⟨hk, rfl⟩, if_neg (by omega), ← hk]; omega
      · rw [if_neg (fun z => hk z.1), if_neg (fun z => hk z.1)]; omega
    · refine hstep (-1) (.inr rfl) (fun v hv => ?_)
      have h5 := hPs (-1) (kind v) (.inr rfl)
      have h6 := hb v hv
      rw [h5.1, h5.2]
      by_cases hk : kind u = kind v
      · rw [if_neg (by omega), if_pos ⟨hk, rfl⟩, ← hk]; omega
      · rw [if_neg (fun z => hk z.1), if_neg (fun z => hk z.1)]; omega
end
end Go.Proofs.YtafjjbkkcedgnaaDoor.QFnHalfWindows.Neck
namespace Go.Proofs.YtafjjbkkcedgnaaDoor.QFnHalfWindows.Neck
structure Val (n : Nat) (x : Nat → Int) : Prop where
  unit : ∀ u, x u = 0 ∨ x u = 1 ∨ x u = -1
  some_ : ∃ u, u < n ∧ x u ≠ 0
theorem vec_unit (l : List Lab) (u : Nat) : vec l u = 0 ∨ vec l u = 1 ∨ vec l u = -1 := by
  unfold vec
  split
  · exact .inr (.inl rfl)
  · split
    · exact .inr (.inr rfl)
    · exact .inl rfl
theorem vec_val {k n : Nat} (hk : k ≤ n) {q r : List Lab} (h : SP k (q ++ r)) (hq : q ≠ []) : Val n (vec q) := by
  refine ⟨vec_unit q, ?_⟩
  cases q with
  | nil => exact absurd rfl hq
  | cons x q =>
    obtain ⟨u, s⟩ := x
    have hlt := h.lt (u, s) (by simp)
    refine ⟨u, by have : u < k := hlt; omega, ?_⟩
    unfold vec
    cases s with
    | true => rw [if_pos List.mem_cons_self]; decide
    | false =>
      rw [if_neg (fun z => h.one (u := u) (List.mem_append_left _ z) (by simp)), if_pos List.mem_cons_self]
      decide
theorem vec_ng {k : Nat} {q r : List Lab} (h : SP k (q ++ r)) : vec (q.map ng) = fun u => -vec q u := by
  funext u
  unfold vec
  by_cases h1 : (u, true) ∈ q
  · have h2 : (u, false) ∉ q := fun z => h.one (u := u) (List.mem_append_left _ h1) (List.mem_append_left _ z)
    rw [if_neg (fun z => h2 (ng_mem.1 z)), if_pos (ng_mem.2 h1), if_pos h1]
  · rw [if_neg h1]
    by_cases h2 : (u, false) ∈ q
    · rw [if_pos (ng_mem.2 h2), if_pos h2]; rfl
    · rw [if_neg (fun z => h2 (ng_mem.1 z)), if_neg (fun z => h1 (ng_mem.1 z)), if_neg h2]; rfl
theorem vec_ge {k : Nat} {q r r' : List Lab} (h : SP k (q ++ r ++ r')) : ∀ u, vec q u ≠ 0 → vec (q ++ r) u = vec q u := fun u hu => by
  unfold vec at hu ⊢
  by_cases h1 : (u, true) ∈ q
  · rw [if_pos h1, if_pos (List.mem_append_left _ h1)]
  · rw [if_neg h1] at hu ⊢
    by_cases h2 : (u, false) ∈ q
    · rw [if_pos h2, if_neg (fun z => h.one (u := u) (List.mem_append_left _ z) (List.mem_append_left _ (List.mem_append_left _ h2))), if_pos (List.mem_append_left _ h2)]
    · rw [if_neg h2] at hu
      exact absurd rfl hu
section
variable (kind : Nat → Nat) (half : Nat → Nat) (n : Nat) (K : List Nat)
def exc (x : Nat → Int) (i : Nat) : Bool := decide (half i < P kind x n i) || decide (half i < Q kind x n i)
/-- A label: how often the turned signs alternate, if it is not much; otherwise a kind of which one has too much. -/
def Lam (x : Nat → Int) : Lab :=
  if ac (tw x) n 0 0 + K.length + 1 ≤ n then (ac (tw x) n 0 0 - 1, decide (fs (tw x) n 0 = 1))
  else match K.find? (exc kind half n x) with
    | some i => (n + i, decide (half i < P kind x n i))
    | none => (0, true)
/-- Is there a fair cut with as many cuts as kinds? -/
def Fair (kind half : Nat → Nat) (n t : Nat) : Prop := ∃ y : Nat → Int, (∀ u, u < n → y u = 1 ∨ y u = -1) ∧ ac y n 0 0 ≤ t + 1 ∧ ∀ u, u < n → P kind y n (kind u) = half (kind u) ∧ Q kind y n (kind u) = half (kind u)
variable {kind half n K}
theorem fs_val {x : Nat → Int} (h : Val n x) : fs (tw x) n 0 = 1 ∨ fs (tw x) n 0 = -1 := by
  obtain ⟨u, hu, hx⟩ := h.some_
  have h1 := fs_some (tw x) n 0 u (Nat.zero_le _) (by omega) (fun z => hx ((tw_zero x u).1 z))
  have h2 := fs_unit (tw x) (fun v => by have := h.unit v; unfold tw; split <;> omega) n 0
  omega
theorem tw_ge {x y : Nat → Int} (h : ∀ u, x u ≠ 0 → y u = x u) : ∀ u, tw x u ≠ 0 → tw y u = tw x u := fun u hu => by
  have := h u (fun z => hu ((tw_zero x u).2 z))
  unfold tw
  rw [this]
variable (hK : ∀ u, u < n → kind u ∈ K) (hh : ∀ u, u < n → T kind n (kind u) = 2 * half (kind u)) (hT : ∀ i, i ∈ K → T kind n i = 2 * half i) (hno : ¬ Fair kind half n K.length) (hn : 0 < n)
include hK hh hT hno hn
theorem find_some {x : Nat → Int} (hx : Val n x) (h : ¬ ac (tw x) n 0 0 + K.length + 1 ≤ n) : ∃ i, K.find? (exc kind half n x) = some i ∧ i ∈ K ∧ exc kind half n x i = true := by
  cases hf : K.find? (exc kind half n x) with
  | some i => exact ⟨i, rfl, List.mem_of_find?_eq_some hf, List.find?_some hf⟩
  | none =>
    exfalso
    have hb : ∀ u, u < n → P kind x n (kind u) ≤ half (kind u) ∧ Q kind x n (kind u) ≤ half (kind u) := fun u hu => by
      have := List.find?_eq_none.1 hf (kind u) (hK u hu)
      unfold exc at this
      simp at this
      omega
    obtain ⟨y, h1, h2, h3, h4⟩ := complete kind half n hh _ x rfl hx.unit hb
    refine hno ⟨y, h3, ?_, h4⟩
    have h5 := ac_mono (tw_ge h1) n 0 0
    have h6 := ac_full hn h3
    omega
theorem exc_one {x : Nat → Int} (hx : Val n x) {i : Nat} (hi : i ∈ K) (h : exc kind half n x i = true) : decide (half i < Q kind x n i) = !decide (half i < P kind x n i) := by
  have h1 := PQZ kind hx.unit n i
  have h2 := hT i hi
  unfold exc at h
  by_cases hp : half i < P kind x n i
  · rw [decide_eq_true hp, decide_eq_false (show ¬ half i < Q kind x n i by omega)]; rfl
  · rw [decide_eq_false hp, Bool.false_or] at h
    rw [decide_eq_false hp, h]; rfl
theorem lam_lt {x : Nat → Int} (hx : Val n x) : (Lam kind half n K x).1 ∈ (List.range (n - 1 - K.length)) ++ K.map (n + ·) := by
  unfold Lam
  by_cases h : ac (tw x) n 0 0 + K.length + 1 ≤ n
  · rw [if_pos h]
    have hf := fs_val hx
    have := ac_pos (tw x) n 0 (by omega)
    refine List.mem_append_left _ (List.mem_range.2 ?_)
    show ac (tw x) n 0 0 - 1 < n - 1 - K.length
    omega
  · rw [if_neg h]
    obtain ⟨i, e, hi, _⟩ := find_some hK hh hT hno hn hx h
    rw [e]
    exact List.mem_append_right _ (List.mem_map.2 ⟨i, hi, rfl⟩)
theorem lam_neg {x : Nat → Int} (hx : Val n x) : Lam kind half n K (fun u => -x u) = ng (Lam kind half n K x) := by
  have ha : ac (tw (fun u => -x u)) n 0 0 = ac (tw x) n 0 0 := by
    rw [tw_neg]
    exact ac_neg (tw x) n 0 0
  unfold Lam
  rw [ha]
  by_cases h : ac (tw x) n 0 0 + K.length + 1 ≤ n
  · rw [if_pos h, if_pos h, tw_neg, fs_neg]
    have hf := fs_val hx
    unfold ng
    rcases hf with hf | hf <;> rw [hf] <;> rfl
  · rw [if_neg h, if_neg h]
    have he : exc kind half n (fun u => -x u) = exc kind half n x := by
      funext i
      unfold exc
      rw [P_neg, Q_neg, Bool.or_comm]
    rw [he]
    obtain ⟨i, e, hi, hex⟩ := find_some hK hh hT hno hn hx h
    rw [e]
    show (n + i, decide (half i < P kind (fun u => -x u) n i)) = (n + i, !decide (half i < P kind x n i))
    rw [P_neg, exc_one hK hh hT hno hn hx hi hex]
theorem lam_comp {x y : Nat → Int} (hx : Val n x) (hy : Val n y) (h : ∀ u, x u ≠ 0 → y u = x u) : Lam kind half n K y ≠ ng (Lam kind half n K x) := by
  have hm := ac_mono (tw_ge h) n 0 0
  unfold Lam
  by_cases h1 : ac (tw y) n 0 0 + K.length + 1 ≤ n
  · rw [if_pos h1, if_pos (by omega)]
    intro e
    obtain ⟨e1, e2⟩ := Prod.mk.inj e
    have hfx := fs_val hx
    have hfy := fs_val hy
    have p1 := ac_pos (tw x) n 0 (by omega)
    have hlt := fs_lt (tw_ge h) n 0 (by omega) (by omega)
    have e3 : fs (tw x) n 0 ≠ fs (tw y) n 0 := fun z => by
      rw [z] at e2
      have e2 : decide (fs (tw y) n 0 = 1) = !decide (fs (tw y) n 0 = 1) := e2
      cases hd : decide (fs (tw y) n 0 = 1) <;> rw [hd] at e2 <;> cases e2
    have := hlt e3
    have e1 : ac (tw y) n 0 0 - 1 = ac (tw x) n 0 0 - 1 := e1
    omega
  · rw [if_neg h1]
    obtain ⟨j, ej, hj, hexj⟩ := find_some hK hh hT hno hn hy h1
    rw [ej]
    by_cases h2 : ac (tw x) n 0 0 + K.length + 1 ≤ n
    · rw [if_pos h2]
      intro e
      have := (Prod.mk.inj e).1
      have : n + j = ac (tw x) n 0 0 - 1 := this
      omega
    · rw [if_neg h2]
      obtain ⟨i, ei, hi, hexi⟩ := find_some hK hh hT hno hn hx h2
      rw [ei]
      intro e
      obtain ⟨e1, e2⟩ := Prod.mk.inj e
      have e1 : n + j = n + i := e1
      have e1 : j = i := by omega
      subst e1
      have e2 : decide (half j < P kind y n j) = !decide (half j < P kind x n j) := e2
      have hP := P_le kind h n j
      have hQ := Q_le kind h n j
      have a1 := exc_one hK hh hT hno hn hx hi hexi
      have a2 := exc_one hK hh hT hno hn hy hj hexj
      by_cases hp : half j < P kind x n j
      · rw [decide_eq_true hp, decide_eq_true (show half j < P kind y n j by omega)] at e2
        cases e2
      · rw [decide_eq_false hp] at a1 e2
        have hq : half j < Q kind x n j := of_decide_eq_true a1
        rw [e2, decide_eq_true (show half j < Q kind y n j by omega)] at a2
        cases a2
end
/-- The necklace theorem of two thieves: as many cuts as kinds are enough. -/
theorem necklace (kind half : Nat → Nat) (n : Nat) (K : List Nat) (hK : ∀ u, u < n → kind u ∈ K) (hT : ∀ i, i ∈ K → T kind n i = 2 * half i) (hn : K.length + 1 ≤ n) : Fair kind half n K.length := by
  refine Classical.byContradiction fun hno => ?_
  have hh : ∀ u, u < n → T kind n (kind u) = 2 * half (kind u) := fun u hu => hT _ (hK u hu)
  have hn0 : 0 < n := by omega
  obtain ⟨B, hB⟩ : ∃ B, ∀ c ∈ (List.range (n - 1 - K.length)) ++ K.map (n + ·), c < B := by
    have : ∀ L : List Nat, ∃ B, ∀ c ∈ L, c < B := fun L => by
      induction L with
      | nil => exact ⟨0, fun c h => by cases h⟩
      | cons a r ih =>
        obtain ⟨B, h⟩ := ih
        refine ⟨a + B + 1, fun c hc => ?_⟩
        rcases List.mem_cons.1 hc with e | e
        · omega
        · have := h c e; omega
    exact this _
  have g : Good (Lam kind half n K) n B := by
    refine ⟨fun k l hk h q r e hq => ?_, fun k l hk h q r e hq => ?_, fun k l hk h q r r' e hq => ?_⟩
    · subst e
      exact hB _ (lam_lt hK hh hT hno hn0 (vec_val hk h hq))
    · subst e
      rw [vec_ng h]
      exact lam_neg hK hh hT hno hn0 (vec_val hk h hq)
    · subst e
      refine lam_comp hK hh hT hno hn0 (vec_val hk (r := r ++ r') (by rw [← List.append_assoc]; exact h) hq) (vec_val hk h (by simp [hq])) (vec_ge h)
  have := fan g ((List.range (n - 1 - K.length)) ++ K.map (n + ·)) (fun k l hk h q r e hq => by
    subst e
    exact lam_lt hK hh hT hno hn0 (vec_val hk h hq))
  rw [List.length_append, List.length_range, List.length_map] at this
  omega
end Go.Proofs.YtafjjbkkcedgnaaDoor.QFnHalfWindows.Neck
/-! Necklaces: the least fair cuts are at most as many as the kinds; how the program and the reference find them. -/
namespace Go.Proofs.YtafjjbkkcedgnaaDoor.QFnHalfWindows
open Go.RowKit Go.Proofs.YtafjjbkkcedgnaaDoor.PFnHalfWindows Go.Proofs.YtafjjbkkcedgnaaDoorW.PrintWords Go.Proofs.YtafjjbkkcedgnaaDoorW.PrintLast Go.Proofs.YtafjjbkkcedgnaaDoorW.PrintMore
set_option linter.unusedVariables false
set_option linter.unusedSimpArgs false
set_option maxRecDepth 100000
/-! ### cuts out of signs -/
/-- The places, of d from u on, at which the sign is another one than ahead. -/
def cf (y : Nat → Int) : Nat → Nat → List Int
  | 0, _ => []
  | d + 1, u => if y u = y (u - 1) then cf y d (u + 1) else (u : Int) :: cf y d (u + 1)
theorem cf_len (y : Nat → Int) (n : Nat) (hy : ∀ u, u < n → y u = 1 ∨ y u = -1) : ∀ d u, 1 ≤ u → u + d = n → (cf y d u).length = Neck.ac y d u (y (u - 1))
  | 0, _, _, _ => rfl
  | d + 1, u, h1, h2 => by
    have h3 := hy u (by omega)
    have ih := cf_len y n hy d (u + 1) (by omega) (by omega)
    rw [Nat.add_sub_cancel] at ih
    unfold cf Neck.ac
    by_cases e : y u = y (u - 1)
    · rw [if_pos e, if_pos (.inr e), ih, e]
    · rw [if_neg e, if_neg (by omega), List.length_cons, ih]
theorem cf_mem (y : Nat → Int) (j : Nat) : ∀ d u, (j : Int) ∈ cf y d u ↔ u ≤ j ∧ j < u + d ∧ y j ≠ y (j - 1)
  | 0, u => by
    constructor
    · intro h; cases h
    · rintro ⟨h1, h2, _⟩; omega
  | d + 1, u => by
    have ih := cf_mem y j d (u + 1)
    unfold cf
    by_cases e : y u = y (u - 1)
    · rw [if_pos e, ih]
      constructor
      · rintro ⟨h1, h2, h3⟩; exact ⟨by omega, by omega, h3⟩
      · rintro ⟨h1, h2, h3⟩
        refine ⟨?_, by omega, h3⟩
        rcases Nat.lt_or_ge u j with h4 | h4
        · exact h4
        · have : u = j := by omega
          subst this
          exact absurd e h3
    · rw [if_neg e, List.mem_cons, ih]
      constructor
      · rintro (h | ⟨h1, h2, h3⟩)
        · have : j = u := by omega
          subst this
          exact ⟨Nat.le_refl _, by omega, e⟩
        · exact ⟨by omega, by omega, h3⟩
      · rintro ⟨h1, h2, h3⟩
        rcases Nat.lt_or_ge u j with h4 | h4
        · exact .inr ⟨h4, by omega, h3⟩
        · exact .inl (by omega)
theorem ch_sub {n m a : Nat} (ha : a < n) {r : List Int} (h : r ∈ ch n m (a + 1)) : r ∈ ch n m a := by
  cases m with
  | zero => exact h
  | succ m =>
    unfold ch at h ⊢
    rw [show n - a = (n - (a + 1)) + 1 by omega]
    unfold chFrom
    exact List.mem_append_right _ h
theorem cf_ch (y : Nat → Int) (n : Nat) : ∀ d u, u + d = n → cf y d u ∈ ch n (cf y d u).length u
  | 0, u, _ => List.mem_singleton.2 rfl
  | d + 1, u, h => by
    have ih := cf_ch y n d (u + 1) (by omega)
    unfold cf
    by_cases e : y u = y (u - 1)
    · rw [if_pos e]
      exact ch_sub (by omega) ih
    · rw [if_neg e, List.length_cons]
      unfold ch
      rw [show n - u = (n - (u + 1)) + 1 by omega]
      unfold chFrom
      exact List.mem_append_left _ (List.mem_map.2 ⟨_, ih, rfl⟩)
theorem among_mem (l : List Int) (x : Int) : ∀ d i, i + d = l.length → (among l x d i = true ↔ x ∈ l.drop i)
  | 0, i, h => by rw [List.drop_eq_nil_of_le (by omega)]; simp [among]
  | d + 1, i, h => by
    have hl : i < l.length := by omega
    have e : rd l (i : Int) = l[i] := by rw [rd_nat, List.getD_eq_getElem?_getD, List.getElem?_eq_getElem hl]; rfl
    rw [List.drop_eq_getElem_cons hl, List.mem_cons]
    unfold among
    rw [e]
    by_cases c : l[i] = x
    · rw [if_pos c]; simp [c]
    · rw [if_neg c, among_mem l x d (i + 1) (by omega)]
      exact ⟨fun h => .inr h, fun h => h.resolve_left (fun z => c z.symm)⟩
theorem signs_of (y : Nat → Int) (n : Nat) (hy : ∀ u, u < n → y u = 1 ∨ y u = -1) (l : List Int) (hl : ∀ j : Nat, 1 ≤ j → j < n → ((j : Int) ∈ l ↔ y j ≠ y (j - 1))) : ∀ d i, 1 ≤ i → i + d = n → ∀ j, j < d → rd (signsFn l d i (y (i - 1))) (j : Int) = y (i + j)
  | 0, _, _, _, j, hj => by omega
  | d + 1, i, h1, h2, j, hj => by
    have h3 := hl i h1 (by omega)
    have ha := among_mem l (i : Int) l.length 0 (by omega)
    rw [List.drop_zero] at ha
    have hyi := hy i (by omega)
    have hyp := hy (i - 1) (by omega)
    have ih := signs_of y n hy l hl d (i + 1) (by omega) (by omega)
    rw [Nat.add_sub_cancel] at ih
    have key : ∀ r, r = y i → ∀ j, j < d + 1 → rd (r :: signsFn l d (i + 1) r) (j : Int) = y (i + j) := fun r hr j hj => by
      subst hr
      cases j with
      | zero => rfl
      | succ j =>
        have := ih j (by omega)
        rw [show i + (j + 1) = i + 1 + j by omega, ← this]
        rw [rd_nat, rd_nat]
        rfl
    unfold signsFn
    by_cases c : among l (i : Int) l.length 0 = true
    · rw [if_pos c]
      have := h3.1 (ha.1 c)
      exact key (-y (i - 1)) (by omega) j hj
    · rw [if_neg c]
      have : y i = y (i - 1) := Classical.byContradiction (fun z => c (ha.2 (h3.2 z)))
      exact key (y (i - 1)) this.symm j hj
/-! ### the kinds of a necklace -/
def kd (bs : List UInt8) (u : Nat) : Nat := (bs.getD u 0).toNat
theorem kd_at {bs : List UInt8} {u : Nat} (h : u < bs.length) : kd bs u = (bs[u]).toNat := by unfold kd; rw [List.getD_eq_getElem?_getD, List.getElem?_eq_getElem h]; rfl
theorem T_cn (bs : List UInt8) (v : Nat) : ∀ m, m ≤ bs.length → (Neck.T (kd bs) m v : Int) = cn v (bs.take m)
  | 0, _ => rfl
  | m + 1, h => by
    have ih := T_cn bs v m (by omega)
    have e : bs.take (m + 1) = bs.take m ++ [bs[m]] := by rw [List.take_succ_eq_append_getElem (by omega)]
    rw [e, cn_snoc, ← ih, ← kd_at (show m < bs.length by omega)]
    unfold Neck.T
    show ((Neck.ct _ m + if (kd bs m == v) = true then 1 else 0 : Nat) : Int) = _
    by_cases c : kd bs m = v
    · rw [if_pos (beq_iff_eq.2 c), if_pos c]; omega
    · rw [if_neg (fun z => c (beq_iff_eq.1 z)), if_neg c]; omega
theorem mine_cn (bs : List UInt8) (y : Nat → Int) (sg : List Int) (v : Nat) (hs : ∀ j, j < bs.length → rd sg (j : Int) = y j) : ∀ m, m ≤ bs.length → cn v (mine bs sg m) = (Neck.P (kd bs) y m v : Int)
  | 0, _ => rfl
  | m + 1, h => by
    have hlt : m < bs.length := by omega
    have ih := mine_cn bs y sg v hs m (by omega)
    have hg : bs[m]? = some bs[m] := List.getElem?_eq_getElem hlt
    have e : (Neck.P (kd bs) y (m + 1) v : Int) = (Neck.P (kd bs) y m v : Int) + (if (kd bs m == v && y m == 1) = true then 1 else 0) := by
      unfold Neck.P
      show ((Neck.ct _ m + if (kd bs m == v && y m == 1) = true then 1 else 0 : Nat) : Int) = _
      split <;> omega
    rw [e, ← ih]
    by_cases c : y m = 1
    · rw [mine_some hg (by rw [hs m hlt]; exact c), cn_snoc, kd_at hlt, c]
      by_cases c2 : (bs[m]).toNat = v
      · rw [if_pos c2, if_pos (by rw [beq_iff_eq.2 c2]; rfl)]
      · rw [if_neg c2, if_neg (by rw [beq_eq_false_iff_ne.2 c2]; decide)]
    · rw [mine_none (by rw [hs m hlt]; exact c), if_neg (by rw [beq_eq_false_iff_ne.2 c, Bool.and_false]; decide), Int.add_zero]
/-- The kinds that are there. -/
def kin (bs : List UInt8) : List Nat := [97, 98, 99, 100].filter fun v => decide (0 < cn v bs)
theorem kin_le (bs : List UInt8) : (kin bs).length ≤ 4 := by
  unfold kin
  exact Nat.le_trans (List.length_filter_le _ _) (by decide)
def evens (bs : List UInt8) : Bool := decide (cn 97 bs % 2 = 0) && decide (cn 98 bs % 2 = 0) && decide (cn 99 bs % 2 = 0) && decide (cn 100 bs % 2 = 0)
theorem evens_at {bs : List UInt8} (h : evens bs = true) {v : Nat} (hv : v = 97 ∨ v = 98 ∨ v = 99 ∨ v = 100) : cn v bs % 2 = 0 := by
  unfold evens at h
  simp only [Bool.and_eq_true, decide_eq_true_eq] at h
  rcases hv with rfl | rfl | rfl | rfl
  · exact h.1.1.1
  · exact h.1.1.2
  · exact h.1.2
  · exact h.2
theorem kin_mem {bs : List UInt8} {v : Nat} : v ∈ kin bs ↔ (v = 97 ∨ v = 98 ∨ v = 99 ∨ v = 100) ∧ 0 < cn v bs := by
  unfold kin
  rw [List.mem_filter, decide_eq_true_eq]
  simp
theorem twice_of {a b : List Int} (h : ∀ i : Nat, i < 4 → 2 * rd a (i : Int) = rd b (i : Int)) : twice a b 4 0 = true := by
  have h0 := h 0 (by decide)
  have h1 := h 1 (by decide)
  have h2 := h 2 (by decide)
  have h3 := h 3 (by decide)
  simp only [twice]
  rw [if_pos h0, if_pos h1, if_pos h2, if_pos h3]
theorem twice_at {a b : List Int} (h : twice a b 4 0 = true) (i : Nat) (hi : i < 4) : 2 * rd a (i : Int) = rd b (i : Int) := by
  simp only [twice] at h
  split at h
  · split at h
    · split at h
      · split at h
        · match i with
          | 0 => assumption
          | 1 => assumption
          | 2 => assumption
          | 3 => assumption
          | n + 4 => omega
        · cases h
      · cases h
    · cases h
  · cases h
theorem rd_cnt (bs : List UInt8) : rd (cntL bs) ((0 : Nat) : Int) = cn 97 bs ∧ rd (cntL bs) ((1 : Nat) : Int) = cn 98 bs ∧ rd (cntL bs) ((2 : Nat) : Int) = cn 99 bs ∧ rd (cntL bs) ((3 : Nat) : Int) = cn 100 bs := ⟨rfl, rfl, rfl, rfl⟩
/-- Even numbers of all kinds: there are fair cuts, at most as many as kinds. -/
theorem fair_some (s : ByteArray) (hb : beads s = true) (hs : s.size ≤ 16) (he : evens s.data.toList = true) : ∃ m, m ≤ (kin s.data.toList).length ∧ ∃ r, r ∈ ch s.size m 1 ∧ fairOf s r = true := by
  have hlen := size_list s
  generalize hbs : s.data.toList = bs at *
  have hkind : ∀ u, u < bs.length → kd bs u = 97 ∨ kd bs u = 98 ∨ kd bs u = 99 ∨ kd bs u = 100 := fun u hu => by
    rw [kd_at hu]
    have : isBead bs[u] = true := by
      unfold beads at hb
      rw [hbs] at hb
      exact List.all_eq_true.1 hb _ (List.getElem_mem hu)
    exact kind_cases this
  have hTn : ∀ v, (Neck.T (kd bs) bs.length v : Int) = cn v bs := fun v => by rw [T_cn bs v bs.length (Nat.le_refl _), List.take_length]
  have hpos : ∀ u, u < bs.length → 0 < cn (kd bs u) bs := fun u hu => by
    rw [← hTn]
    have := Neck.ct_one (f := fun _ => false) (g := fun v => decide (v = u)) bs.length u hu (fun v _ hv => (decide_eq_false hv).symm) rfl (decide_eq_true rfl)
    have h3 : Neck.ct (fun v => decide (v = u)) bs.length ≤ Neck.T (kd bs) bs.length (kd bs u) := Neck.ct_mono bs.length (fun v _ hv => by
      have : v = u := of_decide_eq_true hv
      subst this
      exact beq_iff_eq.2 rfl)
    omega
  rcases Nat.eq_zero_or_pos bs.length with h0 | h0
  · refine ⟨0, Nat.zero_le _, [], List.mem_singleton.2 rfl, ?_⟩
    have : bs = [] := List.eq_nil_of_length_eq_zero h0
    subst this
    unfold fairOf shareL
    rw [hbs, ← hlen, h0]
    decide
  · -- more beads than kinds
    have hmore : (kin bs).length + 1 ≤ bs.length := by
      have hsum : ∀ l : List UInt8, (∀ b ∈ l, isBead b = true) → cn 97 l + cn 98 l + cn 99 l + cn 100 l = l.length := fun l => by
        induction l with
        | nil => intro _; rfl
        | cons b l ih =>
          intro h
          have ih := ih (fun x hx => h x (List.mem_cons_of_mem _ hx))
          have hk := kind_cases (h b List.mem_cons_self)
          have e : ∀ v, cn v (b :: l) = cn v l + (if b.toNat = v then 1 else 0) := fun v => by
            unfold cn
            rw [List.countP_cons]
            by_cases c : b.toNat = v
            · rw [if_pos c, if_pos (decide_eq_true c)]; omega
            · rw [if_neg c, if_neg (by rw [decide_eq_false c]; decide)]; omega
          rw [e, e, e, e, List.length_cons]
          rcases hk with h | h | h | h <;> rw [h] <;> simp <;> omega
      have hall : ∀ b ∈ bs, isBead b = true := by
        unfold beads at hb
        rw [hbs] at hb
        exact List.all_eq_true.1 hb
      have h1 := hsum bs hall
      have e1 := evens_at he (v := 97) (by decide)
      have e2 := evens_at he (v := 98) (by decide)
      have e3 := evens_at he (v := 99) (by decide)
      have e4 := evens_at he (v := 100) (by decide)
      have p1 := (cn_le 97 bs).1
      have p2 := (cn_le 98 bs).1
      have p3 := (cn_le 99 bs).1
      have p4 := (cn_le 100 bs).1
      unfold kin
      simp only [List.filter_cons, List.filter_nil]
      by_cases c1 : 0 < cn 97 bs <;> by_cases c2 : 0 < cn 98 bs <;> by_cases c3 : 0 < cn 99 bs <;> by_cases c4 : 0 < cn 100 bs <;> simp only [c1, c2, c3, c4, decide_true, decide_false, if_true, if_false, Bool.false_eq_true, List.length_cons, List.length_nil] <;> omega
    obtain ⟨y, hy1, hy2, hy3⟩ := Neck.necklace (kd bs) (fun v => Neck.T (kd bs) bs.length v / 2) bs.length (kin bs) (fun u hu => kin_mem.2 ⟨hkind u hu, hpos u hu⟩) (fun v hv => by
      have h1 := evens_at he (kin_mem.1 hv).1
      have h2 := hTn v
      omega) hmore
    -- the first bead is the first thief's
    obtain ⟨y, hy0, hy1, hy2, hy3⟩ : ∃ y : Nat → Int, y 0 = 1 ∧ (∀ u, u < bs.length → y u = 1 ∨ y u = -1) ∧ Neck.ac y bs.length 0 0 ≤ (kin bs).length + 1 ∧ ∀ u, u < bs.length → Neck.P (kd bs) y bs.length (kd bs u) = Neck.T (kd bs) bs.length (kd bs u) / 2 := by
      rcases hy1 0 h0 with h | h
      · exact ⟨y, h, hy1, hy2, fun u hu => (hy3 u hu).1⟩
      · refine ⟨fun u => -y u, by show -y 0 = 1; omega, fun u hu => by have := hy1 u hu; show -y u = 1 ∨ -y u = -1; omega, ?_, fun u hu => by rw [Neck.P_neg]; exact (hy3 u hu).2⟩
        have := Neck.ac_neg y bs.length 0 0
        rw [show (-(0 : Int)) = 0 from rfl] at this
        rw [this]; exact hy2
    obtain ⟨d, hd⟩ : ∃ d, bs.length = d + 1 := ⟨bs.length - 1, by omega⟩
    have hcl := cf_len y bs.length hy1 d 1 (Nat.le_refl _) (by omega)
    have hac : Neck.ac y bs.length 0 0 = Neck.ac y d 1 (y 0) + 1 := by
      rw [hd]
      show (if y 0 = 0 ∨ y 0 = 0 then _ else _) = _
      rw [if_neg (by omega)]
    refine ⟨(cf y d 1).length, by rw [hcl]; show Neck.ac y d 1 (y 0) ≤ _; omega, cf y d 1, ?_, ?_⟩
    · rw [← hlen]
      exact cf_ch y bs.length d 1 (by omega)
    · -- the signs of the cuts
      have hin : ∀ j : Nat, 1 ≤ j → j < bs.length → ((j : Int) ∈ cf y d 1 ↔ y j ≠ y (j - 1)) := fun j h1 h2 => by
        rw [cf_mem]
        exact ⟨fun h => h.2.2, fun h => ⟨h1, by omega, h⟩⟩
      have hsg : ∀ j, j < bs.length → rd (signsFn (cf y d 1) s.size 0 1) (j : Int) = y j := fun j hj => by
        rw [← hlen, hd]
        have h00 : ¬ among (cf y d 1) ((0 : Nat) : Int) (cf y d 1).length 0 = true := fun h => by
          have := (among_mem (cf y d 1) ((0 : Nat) : Int) (cf y d 1).length 0 (by omega)).1 h
          rw [List.drop_zero] at this
          have := (cf_mem y 0 d 1).1 this
          omega
        unfold signsFn
        rw [if_neg h00]
        cases j with
        | zero => rw [hy0]; rfl
        | succ j =>
          have := signs_of y bs.length hy1 (cf y d 1) hin d 1 (Nat.le_refl _) (by omega) j (by omega)
          rw [show y (1 - 1) = 1 from hy0] at this
          rw [show j + 1 = 1 + j by omega, ← this, rd_nat, rd_nat, Nat.add_comm 1 j]
          rfl
      have hmine : ∀ v, cn v (mine bs (signsFn (cf y d 1) s.size 0 1) s.size) = (Neck.P (kd bs) y bs.length v : Int) := fun v => by
        rw [← hlen]
        rw [← hlen] at hsg
        exact mine_cn bs y _ v hsg bs.length (Nat.le_refl _)
      have hfin : ∀ v, (v = 97 ∨ v = 98 ∨ v = 99 ∨ v = 100) → 2 * (Neck.P (kd bs) y bs.length v : Int) = cn v bs := fun v hv => by
        by_cases c : 0 < cn v bs
        · obtain ⟨u, hu, e⟩ : ∃ u, u < bs.length ∧ kd bs u = v := by
            have hc : 0 < bs.countP fun b => decide (b.toNat = v) := by unfold cn at c; omega
            obtain ⟨b, hb1, hb2⟩ := List.countP_pos_iff.1 hc
            obtain ⟨u, hu, e⟩ := List.getElem_of_mem hb1
            exact ⟨u, hu, by rw [kd_at hu, e]; exact of_decide_eq_true hb2⟩
          have h1 := hy3 u hu
          rw [e] at h1
          have h2 := hTn v
          have h3 := evens_at he hv
          omega
        · have h1 : Neck.P (kd bs) y bs.length v ≤ Neck.T (kd bs) bs.length v := Neck.ct_mono _ (fun u _ hu => (Bool.and_eq_true_iff.1 hu).1)
          have h2 := hTn v
          have h3 := (cn_le v bs).1
          omega
      unfold fairOf shareL
      rw [hbs]
      refine twice_of (fun i hi => ?_)
      have r1 := rd_cnt (mine bs (signsFn (cf y d 1) s.size 0 1) s.size)
      have r2 := rd_cnt bs
      match i with
      | 0 => rw [r1.1, r2.1, hmine]; exact hfin 97 (by decide)
      | 1 => rw [r1.2.1, r2.2.1, hmine]; exact hfin 98 (by decide)
      | 2 => rw [r1.2.2.1, r2.2.2.1, hmine]; exact hfin 99 (by decide)
      | 3 => rw [r1.2.2.2, r2.2.2.2, hmine]; exact hfin 100 (by decide)
      | n + 4 => omega
theorem fair_evens {s : ByteArray} {r : List Int} (h : fairOf s r = true) : evens s.data.toList = true := by
  unfold fairOf at h
  have r2 := rd_cnt s.data.toList
  have h0 := twice_at h 0 (by decide)
  have h1 := twice_at h 1 (by decide)
  have h2 := twice_at h 2 (by decide)
  have h3 := twice_at h 3 (by decide)
  rw [r2.1] at h0
  rw [r2.2.1] at h1
  rw [r2.2.2.1] at h2
  rw [r2.2.2.2] at h3
  unfold evens
  rw [decide_eq_true (show cn 97 s.data.toList % 2 = 0 by omega), decide_eq_true (show cn 98 s.data.toList % 2 = 0 by omega), decide_eq_true (show cn 99 s.data.toList % 2 = 0 by omega), decide_eq_true (show cn 100 s.data.toList % 2 = 0 by omega)]
  rfl
/-! ### the searches -/
def fl (s : ByteArray) (m : Nat) : List (List Int) := (ch s.size m 1).filter (fairOf s)
/-- The first fair list with the fewest cuts, of d numbers of cuts from m on. -/
def lst (F : Nat → List (List Int)) : Nat → Nat → Option (List Int)
  | 0, _ => none
  | d + 1, m => match F m with
    | [] => lst F d (m + 1)
    | r :: _ => some r
theorem lst_none (F : Nat → List (List Int)) (h : ∀ m, F m = []) : ∀ d m, lst F d m = none
  | 0, _ => rfl
  | d + 1, m => by unfold lst; rw [h m]; exact lst_none F h d (m + 1)
theorem lst_some (F : Nat → List (List Int)) (n : Nat) (hn : F n ≠ []) : ∀ d m, m ≤ n → n < m + d → ∃ r, lst F d m = some r
  | 0, m, h1, h2 => by omega
  | d + 1, m, h1, h2 => by
    unfold lst
    cases hf : F m with
    | cons r q => exact ⟨r, rfl⟩
    | nil =>
      rcases Nat.lt_or_ge m n with h3 | h3
      · exact lst_some F n hn d (m + 1) h3 (by omega)
      · have : m = n := by omega
        subst this
        exact absurd hf hn
/-- What is found is fair, of as few cuts as there can be. -/
theorem lst_at (F : Nat → List (List Int)) (r : List Int) : ∀ d m, lst F d m = some r → ∃ j, m ≤ j ∧ j < m + d ∧ r ∈ F j ∧ ∀ i, m ≤ i → i < j → F i = []
  | 0, _, h => by cases h
  | d + 1, m, h => by
    unfold lst at h
    cases hf : F m with
    | cons x q =>
      rw [hf] at h
      have : x = r := Option.some.inj h
      subst this
      exact ⟨m, Nat.le_refl _, by omega, by rw [hf]; exact List.mem_cons_self, fun i h1 h2 => by omega⟩
    | nil =>
      rw [hf] at h
      obtain ⟨j, h1, h2, h3, h4⟩ := lst_at F r d (m + 1) h
      refine ⟨j, by omega, by omega, h3, fun i h5 h6 => ?_⟩
      rcases Nat.lt_or_ge m i with h7 | h7
      · exact h4 i h7 h6
      · have : i = m := by omega
        rw [this, hf]
def told (o : Option (List Int)) : List Int × Bool := match o with
  | some r => (r, true)
  | none => ([], false)
theorem least_loop (s : ByteArray) (hb : beads s = true) (hs : s.size ≤ 16) : ∀ d m : Nat, m + d = 5 → Ev (fun k => impl_leastSplit.l0 k s (m : Int)) (told (lst (fl s) d m))
  | 0, m, h => Ev.step (fun f => impl_leastSplit.l0.eq_2 ..) (ev_neg (by omega) (Ev.now _))
  | d + 1, m, h => by
    refine Ev.step (fun f => impl_leastSplit.l0.eq_2 ..) (ev_pos (by omega) (Ev.bind (fairCuts_ev s hb hs m (by omega)) ?_))
    have ih := least_loop s hb hs d (m + 1) (by omega)
    have hw : wrap64 ((m : Int) + 1) = ((m + 1 : Nat) : Int) := by rw [wr (by omega) (by omega)]; omega
    rw [hw]
    unfold lst
    cases hf : fl s m with
    | nil =>
      have hf : (ch s.size m 1).filter (fairOf s) = [] := hf
      rw [hf]
      exact ev_neg (by simp) ih
    | cons r q =>
      have hf : (ch s.size m 1).filter (fairOf s) = r :: q := hf
      rw [hf]
      exact ev_pos (by simp) (Ev.now _)
theorem leastSplit_ev (s : ByteArray) (hb : beads s = true) (hs : s.size ≤ 16) : Ev (fun k => impl_leastSplit.f k s) (told (lst (fl s) 5 0)) := least_loop s hb hs 5 0 rfl
theorem even_tail (l : List Int) (h4 : l.length = 4) (h0 : ∀ i : Nat, 0 ≤ rd l (i : Int)) : ∀ d i : Nat, i + d = 4 → Ev (fun k => spec_nlEven.l0 k l (l.length : Int) (i : Int)) ((List.range' i d).all fun j => decide (rd l (j : Int) % 2 = 0))
  | 0, i, h => Ev.step (fun f => spec_nlEven.l0.eq_2 ..) (ev_neg (by omega) (Ev.now _))
  | d + 1, i, h => by
    have h1 := h0 i
    refine Ev.step (fun f => spec_nlEven.l0.eq_2 ..) (ev_pos (by omega) (ev_pos (by omega) (ev_pos (by omega) ?_)))
    rw [Int.tmod_eq_emod_of_nonneg h1, wr (show -9223372036854775808 ≤ (i : Int) + 1 by omega) (by omega), List.range'_succ, List.all_cons]
    by_cases hc : (rd l (i : Int)) % 2 = 1
    · rw [decide_eq_false (by omega), Bool.false_and]; exact ev_pos hc (Ev.now _)
    · rw [decide_eq_true (by omega), Bool.true_and]; exact ev_neg hc (even_tail l h4 h0 d (i + 1) (by omega))
theorem nlEven_ev (s : ByteArray) (hb : beads s = true) (hs : s.size ≤ 16) : Ev (fun k => spec_nlEven.f k s) (evens s.data.toList) := by
  refine Ev.bind (nlCounts_ev s hb (by omega)) (ev_eq (even_tail _ (cntL_len _) (fun i => (cntL_le s.data.toList i).1) 4 0 rfl) ?_)
  have r := rd_cnt s.data.toList
  show (decide (rd (cntL s.data.toList) ((0 : Nat) : Int) % 2 = 0) && (decide (rd (cntL s.data.toList) ((1 : Nat) : Int) % 2 = 0) && (decide (rd (cntL s.data.toList) ((2 : Nat) : Int) % 2 = 0) && (decide (rd (cntL s.data.toList) ((3 : Nat) : Int) % 2 = 0) && true)))) = _
  rw [r.1, r.2.1, r.2.2.1, r.2.2.2]
  unfold evens
  simp only [Bool.and_true, Bool.and_assoc]
theorem fl_some (s : ByteArray) (hb : beads s = true) (hs : s.size ≤ 16) (he : evens s.data.toList = true) : ∃ r, lst (fl s) 5 0 = some r := by
  obtain ⟨m, hm, r, hr, hf⟩ := fair_some s hb hs he
  have := kin_le s.data.toList
  refine lst_some (fl s) m (fun z => ?_) 5 0 (Nat.zero_le _) (by omega)
  have : r ∈ fl s m := List.mem_filter.2 ⟨hr, hf⟩
  rw [z] at this
  cases this
theorem fl_none (s : ByteArray) (he : evens s.data.toList = false) : lst (fl s) 5 0 = none := lst_none _ (fun m => by
  unfold fl
  refine List.filter_eq_nil_iff.2 (fun r _ hf => ?_)
  rw [fair_evens hf] at he
  cases he) 5 0
theorem lst_len (s : ByteArray) (r : List Int) (h : lst (fl s) 5 0 = some r) : r.length ≤ 4 := by
  obtain ⟨j, h1, h2, h3, _⟩ := lst_at (fl s) r 5 0 h
  have := ch_mem s.size j 1 r (List.mem_filter.1 h3).1
  omega
end Go.Proofs.YtafjjbkkcedgnaaDoor.QFnHalfWindows
/-! Beads for three: the fewest cuts are those of a best way to give them; the same from the back; never more than two a kind; none only for no beads. -/
namespace Go.Proofs.YtafjjbkkcedgnaaDoor.QFnHalfWindows
open Go.RowKit Go.Proofs.YtafjjbkkcedgnaaDoor.PFnHalfWindows Go.Proofs.YtafjjbkkcedgnaaDoorW.PrintWords Go.Proofs.YtafjjbkkcedgnaaDoorW.PrintLast Go.Proofs.YtafjjbkkcedgnaaDoorW.PrintMore Go.Proofs.YtafjjbkkcedgnaaDoorOwn
set_option linter.unusedVariables false
set_option linter.unusedSimpArgs false
set_option maxRecDepth 100000
theorem lp_le (g : Nat → Rws → Int) (k : Nat) (pen : Nat → Int) (rows : Rws) (m : Int) : ∀ d p best, lp g k pen rows d p best ≤ m ↔ best ≤ m ∨ ∃ q, p ≤ q ∧ q < p + d ∧ rows q k ≠ 0 ∧ pen q + g q (upd rows q k (rows q k - 1)) ≤ m
  | 0, p, best => ⟨fun h => .inl h, fun h => h.elim id fun ⟨q, h1, h2, _⟩ => by omega⟩
  | d + 1, p, best => by
    unfold lp
    by_cases h0 : rows p k = 0
    · rw [if_pos h0, lp_le g k pen rows m d (p + 1) best]
      constructor
      · rintro (h | ⟨q, h1, h2, h3⟩)
        · exact .inl h
        · exact .inr ⟨q, by omega, by omega, h3⟩
      · rintro (h | ⟨q, h1, h2, h3, h4⟩)
        · exact .inl h
        · exact .inr ⟨q, by rcases Nat.eq_or_lt_of_le h1 with e | e; · rw [← e] at h3; exact absurd h0 h3
                            · exact e, by omega, h3, h4⟩
    · rw [if_neg h0, lp_le g k pen rows m d (p + 1) _]
      constructor
      · rintro (h | ⟨q, h1, h2, h3⟩)
        · by_cases hb : best ≤ m
          · exact .inl hb
          · exact .inr ⟨p, Nat.le_refl _, by omega, h0, by omega⟩
        · exact .inr ⟨q, by omega, by omega, h3⟩
      · rintro (h | ⟨q, h1, h2, h3, h4⟩)
        · exact .inl (by omega)
        · rcases Nat.eq_or_lt_of_le h1 with e | e
          · subst e; exact .inl (by omega)
          · exact .inr ⟨q, e, by omega, h3, h4⟩
theorem nl_cons (n k : Nat) (r : List Nat) (last : Nat) (rows : Rws) (m : Int) (hm : m < 1000) : nl n (k :: r) last rows ≤ m ↔ ∃ p, p < 3 ∧ rows p k ≠ 0 ∧ (if r.length + 1 < n ∧ p ≠ last then 1 else 0) + nl n r p (upd rows p k (rows p k - 1)) ≤ m := by
  show lp (fun p rows' => nl n r p rows') k (fun p => if r.length + 1 < n ∧ p ≠ last then 1 else 0) rows 3 0 1000 ≤ m ↔ _
  rw [lp_le]
  constructor
  · rintro (h | ⟨q, h1, h2, h3⟩)
    · omega
    · exact ⟨q, by omega, h3⟩
  · rintro ⟨q, h1, h3⟩
    exact .inr ⟨q, by omega, by omega, h3⟩
/-- One way to give the beads. -/
def okA : List Nat → List Nat → Rws → Prop
  | [], [], _ => True
  | k :: r, p :: ps, rows => p < 3 ∧ rows p k ≠ 0 ∧ okA r ps (upd rows p k (rows p k - 1))
  | [], _ :: _, _ => False
  | _ :: _, [], _ => False
/-- How often a row changes. -/
def cc : List Nat → Int
  | [] => 0
  | [_] => 0
  | p :: q :: r => (if q ≠ p then 1 else 0) + cc (q :: r)
theorem cc_nonneg : ∀ l, 0 ≤ cc l
  | [] => Int.le_refl _
  | [_] => Int.le_refl _
  | p :: q :: r => by
    have := cc_nonneg (q :: r)
    unfold cc
    split <;> omega
theorem nl_le (n : Nat) : ∀ (ks : List Nat) (last : Nat) (rows : Rws) (m : Int), ks.length < n → m < 1000 → (nl n ks last rows ≤ m ↔ ∃ ps, okA ks ps rows ∧ cc (last :: ps) ≤ m)
  | [], last, rows, m, _, _ => by
    constructor
    · intro h; exact ⟨[], trivial, h⟩
    · rintro ⟨ps, h1, h2⟩
      cases ps with
      | nil => exact h2
      | cons p ps => exact h1.elim
  | k :: r, last, rows, m, hn, hm => by
    rw [List.length_cons] at hn
    rw [nl_cons n k r last rows m hm]
    constructor
    · rintro ⟨p, h1, h2, h3⟩
      obtain ⟨ps, g1, g2⟩ := (nl_le n r p (upd rows p k (rows p k - 1)) (m - (if r.length + 1 < n ∧ p ≠ last then 1 else 0)) (by omega) (by split <;> omega)).1 (by omega)
      refine ⟨p :: ps, ⟨h1, h2, g1⟩, ?_⟩
      unfold cc
      by_cases e : p ≠ last
      · rw [if_pos ⟨hn, e⟩] at g2; rw [if_pos e]; omega
      · rw [if_neg (fun z => e z.2)] at g2; rw [if_neg e]; omega
    · rintro ⟨ps, h1, h2⟩
      cases ps with
      | nil => exact h1.elim
      | cons p ps =>
        obtain ⟨g1, g2, g3⟩ := h1
        unfold cc at h2
        refine ⟨p, g1, g2, ?_⟩
        have := (nl_le n r p (upd rows p k (rows p k - 1)) (m - (if p ≠ last then 1 else 0)) (by omega) (by split <;> omega)).2 ⟨ps, g3, by omega⟩
        by_cases e : p ≠ last
        · rw [if_pos e] at this; rw [if_pos ⟨hn, e⟩]; omega
        · rw [if_neg e] at this; rw [if_neg (fun z => e z.2)]; omega
theorem nl_top {ks : List Nat} (hk : ks ≠ []) (last : Nat) (rows : Rws) (m : Int) (hm : m < 1000) : nl ks.length ks last rows ≤ m ↔ ∃ ps, okA ks ps rows ∧ cc ps ≤ m := by
  cases ks with
  | nil => exact absurd rfl hk
  | cons k r =>
    rw [nl_cons _ k r last rows m hm]
    constructor
    · rintro ⟨p, h1, h2, h3⟩
      rw [if_neg (fun z => by have := z.1; rw [List.length_cons] at this; omega), Int.zero_add] at h3
      obtain ⟨ps, g1, g2⟩ := (nl_le _ r p _ m (by rw [List.length_cons]; omega) hm).1 h3
      exact ⟨p :: ps, ⟨h1, h2, g1⟩, g2⟩
    · rintro ⟨ps, h1, h2⟩
      cases ps with
      | nil => exact h1.elim
      | cons p ps =>
        obtain ⟨g1, g2, g3⟩ := h1
        refine ⟨p, g1, g2, ?_⟩
        rw [if_neg (fun z => by have := z.1; rw [List.length_cons] at this; omega), Int.zero_add]
        exact (nl_le _ r p _ m (by rw [List.length_cons]; omega) hm).2 ⟨ps, g3, h2⟩
theorem okA_iff : ∀ (ks ps : List Nat) (rows : Rws), (∀ p k, 0 ≤ rows p k) → (okA ks ps rows ↔ ps.length = ks.length ∧ (∀ p ∈ ps, p < 3) ∧ ∀ p k, (((ps.zip ks).count (p, k) : Nat) : Int) ≤ rows p k)
  | [], [], rows, h => ⟨fun _ => ⟨rfl, fun p hp => (by cases hp), fun p k => (by simpa using h p k)⟩, fun _ => trivial⟩
  | [], p :: ps, rows, h => ⟨fun z => z.elim, fun z => by have := z.1; simp at this⟩
  | k :: r, [], rows, h => ⟨fun z => z.elim, fun z => by have := z.1; simp at this⟩
  | k :: r, p :: ps, rows, h => by
    have hc : ∀ p' k', ((p :: ps).zip (k :: r)).count (p', k') = (ps.zip r).count (p', k') + if p' = p ∧ k' = k then 1 else 0 := fun p' k' => by
      rw [List.zip_cons_cons, List.count_cons]
      by_cases e : p' = p ∧ k' = k
      · rw [if_pos e, e.1, e.2, if_pos (by simp)]
      · rw [if_neg e, if_neg (fun z => e (by simp at z; exact ⟨z.1.symm, z.2.symm⟩))]
    constructor
    · rintro ⟨g1, g2, g3⟩
      have hn := h p k
      have hu : ∀ p' k', 0 ≤ upd rows p k (rows p k - 1) p' k' := fun p' k' => by
        unfold upd; split
        · omega
        · exact h p' k'
      obtain ⟨i1, i2, i3⟩ := (okA_iff r ps _ hu).1 g3
      refine ⟨by rw [List.length_cons, List.length_cons, i1], fun q hq => ?_, fun p' k' => ?_⟩
      · rcases List.mem_cons.1 hq with e | e
        · rw [e]; exact g1
        · exact i2 q e
      · have := i3 p' k'
        rw [hc]
        unfold upd at this
        by_cases e : p' = p ∧ k' = k
        · rw [if_pos e] at this ⊢; rw [e.1, e.2] at this ⊢; omega
        · rw [if_neg e] at this ⊢; omega
    · rintro ⟨i1, i2, i3⟩
      have hp := i3 p k
      rw [hc, if_pos ⟨rfl, rfl⟩] at hp
      have hu : ∀ p' k', 0 ≤ upd rows p k (rows p k - 1) p' k' := fun p' k' => by
        unfold upd; split
        · omega
        · exact h p' k'
      refine ⟨i2 p (List.mem_cons_self ..), by omega, (okA_iff r ps _ hu).2 ⟨by rw [List.length_cons, List.length_cons] at i1; omega, fun q hq => i2 q (List.mem_cons_of_mem _ hq), fun p' k' => ?_⟩⟩
      have := i3 p' k'
      rw [hc] at this
      unfold upd
      by_cases e : p' = p ∧ k' = k
      · rw [if_pos e] at this ⊢; rw [e.1, e.2] at this ⊢; omega
      · rw [if_neg e] at this ⊢; omega
theorem cc_snoc : ∀ (l : List Nat) (x : Nat), cc (l ++ [x]) = cc l + (match l.getLast? with | none => 0 | some y => if x ≠ y then 1 else 0)
  | [], x => rfl
  | [p], x => by show (if x ≠ p then (1 : Int) else 0) + 0 = 0 + _; simp
  | p :: q :: r, x => by
    have ih := cc_snoc (q :: r) x
    show (if q ≠ p then (1 : Int) else 0) + cc ((q :: r) ++ [x]) = ((if q ≠ p then (1 : Int) else 0) + cc (q :: r)) + _
    rw [ih, List.getLast?_cons_cons]
    omega
theorem cc_rev : ∀ l, cc l.reverse = cc l
  | [] => rfl
  | [p] => rfl
  | p :: q :: r => by
    have ih := cc_rev (q :: r)
    rw [List.reverse_cons, cc_snoc, ih, List.getLast?_reverse, List.head?_cons]
    show cc (q :: r) + (if p ≠ q then 1 else 0) = (if q ≠ p then 1 else 0) + cc (q :: r)
    by_cases e : p = q
    · rw [e]; omega
    · rw [if_pos e, if_pos (fun z => e z.symm)]; omega
theorem zip_rev (a b : List Nat) (h : a.length = b.length) : (a.zip b).reverse = a.reverse.zip b.reverse := by
  rw [List.zip_eq_zipWith, List.zip_eq_zipWith, List.reverse_zipWith h]
/-- The same from the back. -/
theorem nl_back (ks : List Nat) (last : Nat) (rows : Rws) (h : ∀ p k, 0 ≤ rows p k) (m : Int) (hm : m < 1000) (hk : ks ≠ []) (h1 : nl ks.length ks last rows ≤ m) : nl ks.reverse.length ks.reverse last rows ≤ m := by
  obtain ⟨ps, g1, g2⟩ := (nl_top hk last rows m hm).1 h1
  obtain ⟨i1, i2, i3⟩ := (okA_iff ks ps rows h).1 g1
  refine (nl_top (fun z => hk (List.reverse_eq_nil_iff.1 z)) last rows m hm).2 ⟨ps.reverse, (okA_iff _ _ rows h).2 ⟨by rw [List.length_reverse, List.length_reverse, i1], fun p hp => i2 p (List.mem_reverse.1 hp), fun p k => ?_⟩, by rw [cc_rev]; exact g2⟩
  rw [← zip_rev ps ks i1, List.count_reverse]
  exact i3 p k
theorem nl_rev (ks : List Nat) (last : Nat) (rows : Rws) (h : ∀ p k, 0 ≤ rows p k) : nl ks.reverse.length ks.reverse last rows = nl ks.length ks last rows := by
  by_cases hk : ks = []
  · rw [hk]; rfl
  have r1 := nl_range ks.length ks last rows
  have r2 := nl_range ks.reverse.length ks.reverse last rows
  have back : ∀ m : Int, m < 1000 → nl ks.reverse.length ks.reverse last rows ≤ m → nl ks.length ks last rows ≤ m := fun m hm z => by
    have := nl_back ks.reverse last rows h m hm (fun z => hk (List.reverse_eq_nil_iff.1 z)) z
    rw [List.reverse_reverse] at this
    exact this
  by_cases c1 : nl ks.length ks last rows < 1000
  · have := nl_back ks last rows h _ c1 hk (Int.le_refl _)
    have := back _ (show nl ks.reverse.length ks.reverse last rows < 1000 by omega) (Int.le_refl _)
    omega
  · by_cases c2 : nl ks.reverse.length ks.reverse last rows < 1000
    · have := back _ c2 (Int.le_refl _)
      omega
    · omega
/-- None only for no beads. -/
theorem cc_zero : ∀ (p : Nat) (l : List Nat), cc (p :: l) ≤ 0 → ∀ q ∈ l, q = p
  | p, [], _, q, h => by cases h
  | p, x :: r, h, q, hq => by
    have h1 := cc_nonneg (x :: r)
    unfold cc at h
    by_cases e : x ≠ p
    · rw [if_pos e] at h; omega
    · rw [if_neg e, Int.zero_add] at h
      have e' : x = p := Decidable.not_not.1 e
      rcases List.mem_cons.1 hq with z | z
      · rw [z]; exact e'
      · rw [cc_zero x r h q z]; exact e'
theorem count_const : ∀ (ps ks : List Nat) (p k : Nat), ps.length = ks.length → (∀ q ∈ ps, q = p) → (ps.zip ks).count (p, k) = ks.count k
  | [], [], _, _, _, _ => rfl
  | [], _ :: _, _, _, h, _ => by simp at h
  | _ :: _, [], _, _, h, _ => by simp at h
  | q :: ps, x :: ks, p, k, h, hq => by
    rw [List.zip_cons_cons, List.count_cons, List.count_cons, count_const ps ks p k (by simpa using h) (fun z hz => hq z (List.mem_cons_of_mem _ hz)), hq q (List.mem_cons_self ..)]
    simp
theorem nl_zero {ks : List Nat} (hk : ks ≠ []) (last : Nat) (rows : Rws) (h : ∀ p k, 0 ≤ rows p k) (hr : ∀ p, ∀ k ∈ ks, rows p k < ks.count k) : 1 ≤ nl ks.length ks last rows := by
  refine Decidable.byContradiction fun hn => ?_
  obtain ⟨ps, g1, g2⟩ := (nl_top hk last rows 0 (by omega)).1 (by omega)
  obtain ⟨i1, i2, i3⟩ := (okA_iff ks ps rows h).1 g1
  cases ks with
  | nil => exact hk rfl
  | cons k r =>
    cases ps with
    | nil => simp at i1
    | cons p ps =>
      have hz := cc_zero p ps g2
      have := i3 p k
      rw [count_const (p :: ps) (k :: r) p k i1 (List.forall_mem_cons.2 ⟨rfl, hz⟩)] at this
      have := hr p k (List.mem_cons_self ..)
      omega
end Go.Proofs.YtafjjbkkcedgnaaDoor.QFnHalfWindows
/-! Windows that hold half: when there is one, and what it holds; three share with two cuts a kind: for every input; there are no conditions. -/
namespace Go.Proofs.YtafjjbkkcedgnaaDoor.QFnHalfWindows
open Go.RowKit Go.Proofs.YtafjjbkkcedgnaaDoorOwn Go.Proofs.YtafjjbkkcedgnaaDoor.PFnHalfWindows Go.Proofs.YtafjjbkkcedgnaaDoorW.PrintWords Go.Proofs.YtafjjbkkcedgnaaDoorW.PrintLast Go.Proofs.YtafjjbkkcedgnaaDoorW.PrintMore Go.Proofs.YtafjjbkkcedgnaaDoor.QFnHalfWindows
set_option linter.unusedVariables false
set_option linter.unusedSectionVars false
set_option maxRecDepth 100000
theorem in_spec (a b c : Int) : spec_l1In.f a b c = some (decide (b ≤ a ∧ a ≤ c)) := by
  unfold spec_l1In.f
  by_cases h : a ≥ b
  · rw [if_pos h]; simp [h]
  · rw [if_neg h]; simp [h]
theorem in_impl (a b c : Int) : impl_in.f a b c = some (decide (b ≤ a ∧ a ≤ c)) := by
  unfold impl_in.f
  by_cases h : b ≤ a
  · rw [if_pos h]; simp [h]
  · rw [if_neg h]; simp [h]
theorem same_loop (a : List Int) (ha : a.length ≤ 10000) : ∀ d i : Nat, i + d = a.length → Ev (fun f => laws_zSame.l0 f a a (a.length : Int) (i : Int)) true
  | 0, i, h => Ev.step (fun f => laws_zSame.l0.eq_2 ..) (ev_neg (by omega) (Ev.now _))
  | d + 1, i, h => by
    refine Ev.step (fun f => laws_zSame.l0.eq_2 ..) (ev_pos (by omega) (ev_pos (by omega) (ev_pos (by omega) (ev_pos (by omega) (ev_pos rfl ?_)))))
    rw [wr (show -9223372036854775808 ≤ (i : Int) + 1 by omega) (by omega)]
    exact same_loop a ha d (i + 1) (by omega)
theorem same_ev (a : List Int) (ha : a.length ≤ 10000) : Ev (fun f => laws_zSame.f f a a) true := ev_pos rfl (same_loop a ha a.length 0 (by omega))
theorem zsame_loop (a b : List Int) (ha : a.length ≤ 10000) (hab : a.length = b.length) : ∀ d i : Nat, i + d = a.length → Ev (fun f => laws_zSame.l0 f a b (a.length : Int) (i : Int)) (decide (a.drop i = b.drop i))
  | 0, i, h => by
    rw [List.drop_eq_nil_of_le (by omega), List.drop_eq_nil_of_le (by omega)]
    exact Ev.step (fun f => laws_zSame.l0.eq_2 ..) (ev_neg (by omega) (Ev.now _))
  | d + 1, i, h => by
    have h1 : i < a.length := by omega
    have h2 : i < b.length := by omega
    have e1 : rd a (i : Int) = a[i] := by rw [rd_nat, List.getD_eq_getElem?_getD, List.getElem?_eq_getElem h1]; rfl
    have e2 : rd b (i : Int) = b[i] := by rw [rd_nat, List.getD_eq_getElem?_getD, List.getElem?_eq_getElem h2]; rfl
    refine Ev.step (fun f => laws_zSame.l0.eq_2 ..) (ev_pos (by omega) (ev_pos (by omega) (ev_pos (by omega) (ev_pos (by omega) ?_))))
    rw [List.drop_eq_getElem_cons h1, List.drop_eq_getElem_cons h2, wr (show -9223372036854775808 ≤ (i : Int) + 1 by omega) (by omega)]
    by_cases e : a[i] = b[i]
    · refine ev_pos (by rw [e1, e2]; exact e) (ev_eq (zsame_loop a b ha hab d (i + 1) (by omega)) ?_)
      exact decide_eq_decide.2 ⟨fun z => by rw [e, z], fun z => (List.cons.inj z).2⟩
    · refine ev_neg (by rw [e1, e2]; exact e) (ev_eq (Ev.now _) ?_)
      exact (decide_eq_false fun z => e (List.cons.inj z).1).symm
theorem zsame_ev (a b : List Int) (ha : a.length ≤ 10000) (hab : a.length = b.length) : Ev (fun f => laws_zSame.f f a b) (decide (a = b)) := ev_pos (by rw [hab]) (zsame_loop a b ha hab a.length 0 (Nat.zero_add _))
theorem zsum4 (a b c d : Int) (ha : 0 ≤ a ∧ a ≤ 1000) (hb : 0 ≤ b ∧ b ≤ 1000) (hc : 0 ≤ c ∧ c ≤ 1000) (hd : 0 ≤ d ∧ d ≤ 1000) : Ev (fun f => laws_zSum.f f [a, b, c, d]) (a + b + c + d) := by
  have w : ∀ x : Int, 0 ≤ x → x ≤ 10000 → wrap64 x = x := fun x h h' => wr (by omega) (by omega)
  have w1 : wrap64 (0 + 1) = 1 := wr (by omega) (by omega)
  have w2 : wrap64 (1 + 1) = 2 := wr (by omega) (by omega)
  have w3 : wrap64 (2 + 1) = 3 := wr (by omega) (by omega)
  have w4 : wrap64 (3 + 1) = 4 := wr (by omega) (by omega)
  refine Ev.step (fun f => laws_zSum.l0.eq_2 ..) (ev_pos (show (0 : Int) < 4 by decide) (ev_pos (by decide) (ev_pos (show (0 : Int) < 4 by decide) ?_)))
  rw [show rd [a, b, c, d] 0 = a from rfl, w1, w (0 + a) (by omega) (by omega)]
  refine Ev.step (fun f => laws_zSum.l0.eq_2 ..) (ev_pos (show (1 : Int) < 4 by decide) (ev_pos (by decide) (ev_pos (show (1 : Int) < 4 by decide) ?_)))
  rw [show rd [a, b, c, d] 1 = b from rfl, w2, w (0 + a + b) (by omega) (by omega)]
  refine Ev.step (fun f => laws_zSum.l0.eq_2 ..) (ev_pos (show (2 : Int) < 4 by decide) (ev_pos (by decide) (ev_pos (show (2 : Int) < 4 by decide) ?_)))
  rw [show rd [a, b, c, d] 2 = c from rfl, w3, w (0 + a + b + c) (by omega) (by omega)]
  refine Ev.step (fun f => laws_zSum.l0.eq_2 ..) (ev_pos (show (3 : Int) < 4 by decide) (ev_pos (by decide) (ev_pos (show (3 : Int) < 4 by decide) ?_)))
  rw [show rd [a, b, c, d] 3 = d from rfl, w4, w (0 + a + b + c + d) (by omega) (by omega)]
  exact Ev.step (fun f => laws_zSum.l0.eq_2 ..) (ev_neg (show ¬ (4 : Int) < 4 by decide) (ev_eq (Ev.now _) (by omega)))
/-! ### windows -/
theorem win_len (s : ByteArray) {a n : Nat} (ha : a < s.size) (hn : n ≤ s.size) : (winL s a n).length = n := by
  unfold winL
  rw [List.length_take, List.length_drop, List.length_append, size_list]
  omega
/-- A window inside: what both tell. -/
theorem win_two (s : ByteArray) (hn : neckl s = true) {a n : Nat} (ha : a < s.size) (hl : n ≤ s.size) : Ev (fun k => impl_WindowCounts.f k s (a : Int) (n : Int)) (cntL (winL s a n), true) ∧ Ev (fun k => spec_WindowCounts.f k s (a : Int) (n : Int)) (cntL (winL s a n), true) := by
  have e := nlGood_ev s
  have e2 := isNecklace_ev s
  rw [hn] at e e2
  have hb := neckl_beads hn
  have hs := neckl_size hn
  have hw : wrap64 ((s.size : Int) - 1) = (s.size : Int) - 1 := wr (by omega) (by omega)
  obtain ⟨t, ht1, ht2⟩ := window_ev s (by omega) a n ha hl
  have c1 : 0 ≤ (a : Int) ∧ (a : Int) ≤ (s.size : Int) - 1 := by omega
  have c2 : 0 ≤ (n : Int) ∧ (n : Int) ≤ (s.size : Int) := by omega
  constructor
  · refine ev_bind0 e2 (ev_pos rfl (ev_bind0 (in_impl _ _ _) (ev_pos (by rw [hw]; exact decide_eq_true c1) (ev_bind0 (in_impl _ _ _) ?_))))
    rw [decide_eq_true c2]
    exact Ev.step (fun f => impl_WindowCounts.j0.eq_2 ..) (ev_neg Bool.false_ne_true (ev_bind0 ht1 (Ev.bind (win_counts s hb (by omega) a n ha hl t ht2) (Ev.now _))))
  · exact Ev.bind e (ev_pos rfl (ev_bind0 (in_spec _ _ _) (ev_pos (by rw [hw]; exact decide_eq_true c1) (ev_bind0 (in_spec _ _ _) (ev_pos (decide_eq_true c2) (Ev.bind (nlWindow_ev s hb (by omega) (by omega) a n ha hl) (Ev.now _)))))))
/-- All windows: both tell the same, and as many beads as the window is long. -/
theorem win_any (s : ByteArray) (a1 a2 : Int) : ∃ p : List Int × Bool, Ev (fun k => impl_WindowCounts.f k s a1 a2) p ∧ Ev (fun k => spec_WindowCounts.f k s a1 a2) p ∧ p.1.length ≤ 4 ∧ (p.2 = true → Ev (fun k => laws_zSum.f k p.1) a2) := by
  have bad : Ev (fun k => impl_WindowCounts.j0 k s a1 a2 true) ([], false) := Ev.step (fun f => impl_WindowCounts.j0.eq_2 ..) (ev_pos rfl (Ev.now _))
  have e := nlGood_ev s
  have e2 := isNecklace_ev s
  cases hn : neckl s with
  | false =>
    rw [hn] at e e2
    exact ⟨([], false), ev_bind0 e2 (ev_neg Bool.false_ne_true bad), Ev.bind e (ev_neg Bool.false_ne_true (Ev.now _)), by simp, fun z => (by cases z)⟩
  | true =>
    rw [hn] at e e2
    have hb := neckl_beads hn
    have hs := neckl_size hn
    have hw : wrap64 ((s.size : Int) - 1) = (s.size : Int) - 1 := wr (by omega) (by omega)
    by_cases c1 : 0 ≤ a1 ∧ a1 ≤ (s.size : Int) - 1
    · by_cases c2 : 0 ≤ a2 ∧ a2 ≤ (s.size : Int)
      · obtain ⟨a, ea⟩ := Int.eq_ofNat_of_zero_le c1.1
        obtain ⟨n, en⟩ := Int.eq_ofNat_of_zero_le c2.1
        subst ea en
        obtain ⟨g1, g2⟩ := win_two s hn (a := a) (n := n) (by omega) (by omega)
        refine ⟨_, g1, g2, by rw [cntL_len]; omega, fun _ => ?_⟩
        have hl := win_len s (a := a) (n := n) (by omega) (by omega)
        have hsum := cn_sum (winL s a n) (List.all_eq_true.2 fun x hx => List.all_eq_true.1 hb x (winL_mem hx))
        have n0 := cn_le 97 (winL s a n)
        have n1 := cn_le 98 (winL s a n)
        have n2 := cn_le 99 (winL s a n)
        have n3 := cn_le 100 (winL s a n)
        exact ev_eq (zsum4 _ _ _ _ (by omega) (by omega) (by omega) (by omega)) (by omega)
      · refine ⟨([], false), ev_bind0 e2 (ev_pos rfl (ev_bind0 (in_impl _ _ _) (ev_pos (by rw [hw]; exact decide_eq_true c1) (ev_bind0 (in_impl _ _ _) ?_)))), Ev.bind e (ev_pos rfl (ev_bind0 (in_spec _ _ _) (ev_pos (by rw [hw]; exact decide_eq_true c1) (ev_bind0 (in_spec _ _ _) (ev_neg (by rw [decide_eq_false c2]; decide) (Ev.now _)))))), by simp, fun z => (by cases z)⟩
        rw [decide_eq_false c2]; exact bad
    · exact ⟨([], false), ev_bind0 e2 (ev_pos rfl (ev_bind0 (in_impl _ _ _) (ev_neg (by rw [hw, decide_eq_false c1]; decide) bad))), Ev.bind e (ev_pos rfl (ev_bind0 (in_spec _ _ _) (ev_neg (by rw [hw, decide_eq_false c1]; decide) (Ev.now _)))), by simp, fun z => (by cases z)⟩
/-- The window across holds what the other does. -/
theorem across (s : ByteArray) (h : Nat) (hs : s.size = 2 * h) (v : Nat) {a : Nat} (ha : a < h) : cn v (winL s a h) + cn v (winL s (a + h) h) = cn v s.data.toList := by
  have hL : s.data.toList.length = s.size := size_list s
  have e1 := cn_win v (s.data.toList ++ s.data.toList) a h
  have e2 := cn_win v (s.data.toList ++ s.data.toList) (a + h) h
  have e3 : (s.data.toList ++ s.data.toList).take (a + h + h) = s.data.toList ++ s.data.toList.take a := by
    rw [show a + h + h = s.data.toList.length + a by omega, List.take_length_add_append]
  have e4 : (s.data.toList ++ s.data.toList).take a = s.data.toList.take a := List.take_append_of_le_length (by omega)
  rw [e3, cn_app] at e2
  rw [e4] at e1
  unfold winL
  omega
theorem across0 (s : ByteArray) (h : Nat) (hs : s.size = 2 * h) (v : Nat) : cn v (winL s 0 h) + cn v (winL s h h) = cn v s.data.toList := by
  have hL : s.data.toList.length = s.size := size_list s
  have e1 := cn_win v (s.data.toList ++ s.data.toList) 0 h
  have e2 := cn_win v (s.data.toList ++ s.data.toList) h h
  rw [show h + h = s.data.toList.length by omega, List.take_left] at e2
  rw [Nat.zero_add, List.take_zero] at e1
  have e3 : cn v ([] : List UInt8) = 0 := rfl
  unfold winL
  omega
/-! ### half windows -/
theorem odd_evens (L : List UInt8) : evens L = !oddAt (cntL L) 4 0 := by
  have e : oddAt (cntL L) 4 0 = if cn 97 L % 2 = 1 then true else if cn 98 L % 2 = 1 then true else if cn 99 L % 2 = 1 then true else if cn 100 L % 2 = 1 then true else false := rfl
  rw [e]
  unfold evens
  have h0 : cn 97 L % 2 = 0 ∨ cn 97 L % 2 = 1 := by omega
  have h1 : cn 98 L % 2 = 0 ∨ cn 98 L % 2 = 1 := by omega
  have h2 : cn 99 L % 2 = 0 ∨ cn 99 L % 2 = 1 := by omega
  have h3 : cn 100 L % 2 = 0 ∨ cn 100 L % 2 = 1 := by omega
  rcases h0 with h0 | h0 <;> rcases h1 with h1 | h1 <;> rcases h2 with h2 | h2 <;> rcases h3 with h3 | h3 <;> rw [h0, h1, h2, h3] <;> rfl
/-- What both tell of half windows. -/
theorem half_two (s : ByteArray) : ∃ p : Int × Bool, Ev (fun k => impl_HalfWindow.f k s) p ∧ Ev (fun k => spec_HalfWindow.f k s) p ∧ p.2 = (neckl s && decide (0 < s.size) && evens s.data.toList && decide (kn (cntL s.data.toList) ≤ 2)) ∧
    (p.2 = true → ∃ a : Nat, p.1 = (a : Int) ∧ a ≤ s.size / 2 ∧ allF (cntL (winL s a (s.size / 2))) (cntL s.data.toList) 4 0 = true ∧ ∀ c, c < a → allF (cntL (winL s c (s.size / 2))) (cntL s.data.toList) 4 0 = false) := by
  have badS : Ev (fun k => spec_HalfWindow.j0 k s true) (0, false) := Ev.step (fun f => spec_HalfWindow.j0.eq_2 ..) (ev_pos rfl (Ev.now _))
  have badI : Ev (fun k => impl_HalfWindow.j0 k s true) (0, false) := Ev.step (fun f => impl_HalfWindow.j0.eq_2 ..) (ev_pos rfl (Ev.now _))
  have none_ : ∀ q : Bool, q = false → Ev (fun k => impl_HalfWindow.f k s) (0, false) → Ev (fun k => spec_HalfWindow.f k s) (0, false) → ∃ p : Int × Bool, Ev (fun k => impl_HalfWindow.f k s) p ∧ Ev (fun k => spec_HalfWindow.f k s) p ∧ p.2 = q ∧
    (p.2 = true → ∃ a : Nat, p.1 = (a : Int) ∧ a ≤ s.size / 2 ∧ allF (cntL (winL s a (s.size / 2))) (cntL s.data.toList) 4 0 = true ∧ ∀ c, c < a → allF (cntL (winL s c (s.size / 2))) (cntL s.data.toList) 4 0 = false) := fun q hq h1 h2 => ⟨(0, false), h1, h2, hq.symm, fun z => (by cases z)⟩
  have e := nlGood_ev s
  have e2 := isNecklace_ev s
  cases hn : neckl s with
  | false =>
    rw [hn] at e e2
    exact none_ _ rfl (ev_bind0 e2 (ev_neg Bool.false_ne_true badI)) (Ev.bind e (ev_neg Bool.false_ne_true badS))
  | true =>
    rw [hn] at e e2
    have hb := neckl_beads hn
    have hs := neckl_size hn
    by_cases hz : s.toList = ([] : List UInt8)
    · have h0 : s.size = 0 := by
        have : s.data.toList.length = 0 := by rw [← ByteArray.toList_eq, hz]; rfl
        rw [← size_list]; exact this
      refine none_ _ (by rw [h0]; simp) (ev_bind0 e2 (ev_pos rfl (ev_pos hz badI))) (Ev.bind e (ev_pos rfl (ev_pos hz badS)))
    · have hpos : 0 < s.size := Nat.pos_of_ne_zero fun z => hz (by
        rw [ByteArray.toList_eq]
        exact List.length_eq_zero_iff.1 (by rw [size_list]; exact z))
      have h0 : ∀ i : Nat, 0 ≤ rd (cntL s.data.toList) (i : Int) := fun i => (cntL_le s.data.toList i).1
      have hev : Ev (fun k => spec_nlEven.f k s) (!oddAt (cntL s.data.toList) 4 0) := Ev.bind (nlCounts_ev s hb (by omega)) (even_loop (cntL s.data.toList) (by rw [cntL_len]; omega) h0 4 0 (by rw [cntL_len]))
      obtain ⟨r, hr1, hr2⟩ := odd_loop (cntL s.data.toList) (by rw [cntL_len]; omega) h0 4 0 (by rw [cntL_len])
      have hod : Ev (fun k => slices_ContainsFunc_int_int__impl_HalfWindow_1.f k (cntL s.data.toList)) (oddAt (cntL s.data.toList) 4 0) := Ev.bind hr1 (ev_eq (Ev.now _) hr2)
      have hks := nlKinds_ev s hb (by omega)
      have hki := kinds_ev s hb (by omega)
      have hcn := counts_ev s hb (by omega)
      rw [odd_evens]
      cases ho : oddAt (cntL s.data.toList) 4 0 with
      | true =>
        rw [ho] at hev hod
        refine none_ _ (by simp) (ev_bind0 e2 (ev_pos rfl (ev_neg hz (Ev.bind hki ?_)))) (Ev.bind e (ev_pos rfl (ev_neg hz (Ev.bind hev (ev_neg Bool.false_ne_true badS)))))
        by_cases hk : kn (cntL s.data.toList) > 2
        · exact ev_pos hk badI
        · exact ev_neg hk (Ev.bind hcn (Ev.bind hod badI))
      | false =>
        rw [ho] at hev hod
        by_cases hk : kn (cntL s.data.toList) > 2
        · refine none_ _ (by rw [decide_eq_false (show ¬ kn (cntL s.data.toList) ≤ 2 by omega)]; simp) (ev_bind0 e2 (ev_pos rfl (ev_neg hz (Ev.bind hki (ev_pos hk badI))))) (Ev.bind e (ev_pos rfl (ev_neg hz (Ev.bind hev (ev_pos rfl (Ev.bind hks ?_))))))
          rw [decide_eq_true hk]; exact badS
        · have r1 := spec_loop s hb (by omega) s.size 0 (by omega)
          have r2 := impl_loop s hb (by omega) s.size 0 (by omega)
          obtain ⟨b, b1, b2⟩ := half_some s hb ho (by omega)
          rcases firstW_spec s s.size 0 with ⟨g1, _⟩ | ⟨a, _, g2, g3, g4, g5⟩
          · rw [g1 b (Nat.zero_le _) (by omega)] at b2; cases b2
          · have hab : a ≤ b := Nat.le_of_not_lt fun z => by rw [g5 b (Nat.zero_le _) z] at b2; cases b2
            rw [g3] at r1 r2
            refine ⟨((a : Int), true), ev_bind0 e2 (ev_pos rfl (ev_neg hz (Ev.bind hki (ev_neg hk (Ev.bind hcn (Ev.bind hod ?_)))))), Ev.bind e (ev_pos rfl (ev_neg hz (Ev.bind hev (ev_pos rfl (Ev.bind hks ?_))))), ?_, fun _ => ⟨a, rfl, by omega, g4, fun c hc => g5 c (Nat.zero_le _) hc⟩⟩
            · exact Ev.step (fun f => impl_HalfWindow.j0.eq_2 ..) (ev_neg Bool.false_ne_true r2)
            · rw [decide_eq_false hk]
              exact Ev.step (fun f => spec_HalfWindow.j0.eq_2 ..) (ev_neg Bool.false_ne_true (Ev.bind (nlCounts_ev s hb (by omega)) r1))
            · rw [decide_eq_true hpos, decide_eq_true (show kn (cntL s.data.toList) ≤ 2 by omega)]; rfl
end Go.Proofs.YtafjjbkkcedgnaaDoor.QFnHalfWindows
/-! Beads for three: never more than two cuts a kind: tried for each row of at most nine. -/
namespace Go.Proofs.YtafjjbkkcedgnaaDoor.QFnHalfWindows
open Go.RowKit Go.Proofs.YtafjjbkkcedgnaaDoor.PFnHalfWindows Go.Proofs.YtafjjbkkcedgnaaDoorW.PrintWords Go.Proofs.YtafjjbkkcedgnaaDoorW.PrintLast Go.Proofs.YtafjjbkkcedgnaaDoorW.PrintMore Go.Proofs.YtafjjbkkcedgnaaDoorOwn
set_option linter.unusedVariables false
set_option linter.unusedSimpArgs false
set_option maxRecDepth 100000
def stepQ (q : List Nat) (e : Nat) : List Nat := q.set e (q.getD e 0 - 1)
/-- Is there a way with b changes at most? -/
def srch : List Nat → Nat → Nat → List Nat → Bool
  | [], _, _, _ => true
  | k :: r, last, b, q => (q.getD (4 * last + k) 0 != 0 && srch r last b (stepQ q (4 * last + k))) || (b != 0 && ((q.getD k 0 != 0 && srch r 0 (b - 1) (stepQ q k)) || ((q.getD (4 + k) 0 != 0 && srch r 1 (b - 1) (stepQ q (4 + k))) || (q.getD (8 + k) 0 != 0 && srch r 2 (b - 1) (stepQ q (8 + k))))))
def Rel (q : List Nat) (rows : Rws) : Prop := q.length = 12 ∧ ∀ p k, p < 3 → k < 4 → rows p k = ((q.getD (4 * p + k) 0 : Nat) : Int)
theorem Rel.step {q : List Nat} {rows : Rws} (h : Rel q rows) {p k : Nat} (hp : p < 3) (hk : k < 4) (h0 : q.getD (4 * p + k) 0 ≠ 0) : Rel (stepQ q (4 * p + k)) (upd rows p k (rows p k - 1)) := by
  refine ⟨by unfold stepQ; rw [List.length_set]; exact h.1, fun p' k' hp' hk' => ?_⟩
  have hl := h.1
  have e1 := h.2 p k hp hk
  have e2 := h.2 p' k' hp' hk'
  unfold upd stepQ
  rw [List.getD_eq_getElem?_getD, List.getElem?_set]
  by_cases e : p' = p ∧ k' = k
  · rw [if_pos e, if_pos (by rw [e.1, e.2]), if_pos (by omega), Option.getD_some]
    omega
  · rw [if_neg e, if_neg (fun z => e (by omega)), e2, List.getD_eq_getElem?_getD]
theorem srch_ok : ∀ (ks : List Nat) (last b : Nat) (q : List Nat) (rows : Rws), last < 3 → (∀ k ∈ ks, k < 4) → Rel q rows → srch ks last b q = true → ∃ ps, okA ks ps rows ∧ cc (last :: ps) ≤ (b : Int)
  | [], last, b, q, rows, _, _, _, _ => ⟨[], trivial, by show (0 : Int) ≤ b; omega⟩
  | k :: r, last, b, q, rows, hl, hk, hR, h => by
    have hk4 := hk k (List.mem_cons_self ..)
    have hr : ∀ k ∈ r, k < 4 := fun x hx => hk x (List.mem_cons_of_mem _ hx)
    have go : ∀ p b', p < 3 → (p = last ∧ b' = b ∨ b' + 1 = b) → q.getD (4 * p + k) 0 ≠ 0 → srch r p b' (stepQ q (4 * p + k)) = true → ∃ ps, okA (k :: r) ps rows ∧ cc (last :: ps) ≤ (b : Int) := fun p b' hp hb h0 hs => by
      obtain ⟨ps, g1, g2⟩ := srch_ok r p b' _ _ hp hr (hR.step hp hk4 h0) hs
      have e := hR.2 p k hp hk4
      refine ⟨p :: ps, ⟨hp, by omega, g1⟩, ?_⟩
      unfold cc
      rcases hb with ⟨e1, e2⟩ | e1
      · rw [if_neg (fun z => z e1)]; omega
      · split <;> omega
    unfold srch at h
    simp only [Bool.or_eq_true, Bool.and_eq_true, bne_iff_ne] at h
    rcases h with ⟨h1, h2⟩ | ⟨hb, h⟩
    · exact go last b hl (.inl ⟨rfl, rfl⟩) h1 h2
    · have hb' : b - 1 + 1 = b := by omega
      rcases h with ⟨h1, h2⟩ | ⟨h1, h2⟩ | ⟨h1, h2⟩
      · exact go 0 (b - 1) (by omega) (.inr hb') (by rw [show 4 * 0 + k = k by omega]; exact h1) (by rw [show 4 * 0 + k = k by omega]; exact h2)
      · exact go 1 (b - 1) (by omega) (.inr hb') h1 h2
      · exact go 2 (b - 1) (by omega) (.inr hb') h1 h2
def dfc (a b c d : Nat) : Nat := (3 - a % 3) % 3 + (3 - b % 3) % 3 + (3 - c % 3) % 3 + (3 - d % 3) % 3
def o1 (a : Nat) : Nat := if a = 0 then 0 else 1
def kd4 (a b c d : Nat) : Nat := o1 a + o1 b + o1 c + o1 d
def qu (a b c d : Nat) : List Nat := [a / 3, b / 3, c / 3, d / 3, a / 3, b / 3, c / 3, d / 3, a / 3, b / 3, c / 3, d / 3]
def gw : Nat → Nat → Nat → Nat → Nat → List Nat → Bool
  | 0, a, b, c, d, w => if 0 < dfc a b c d then true else srch w 0 (2 * kd4 a b c d) (qu a b c d)
  | n + 1, a, b, c, d, w => if n + 1 < dfc a b c d then true else gw n (a + 1) b c d (0 :: w) && (gw n a (b + 1) c d (1 :: w) && (gw n a b (c + 1) d (2 :: w) && gw n a b c (d + 1) (3 :: w)))
theorem cnt4 : ∀ u : List Nat, (∀ k ∈ u, k < 4) → u.count 0 + u.count 1 + u.count 2 + u.count 3 = u.length
  | [], _ => rfl
  | k :: u, h => by
    have ih := cnt4 u (fun x hx => h x (List.mem_cons_of_mem _ hx))
    have hk := h k (List.mem_cons_self ..)
    rw [List.count_cons, List.count_cons, List.count_cons, List.count_cons, List.length_cons]
    have e : k = 0 ∨ k = 1 ∨ k = 2 ∨ k = 3 := by omega
    rcases e with rfl | rfl | rfl | rfl <;> simp <;> omega
theorem gw_ok : ∀ (n a b c d : Nat) (w : List Nat), gw n a b c d w = true → ∀ u : List Nat, u.length = n → (∀ k ∈ u, k < 4) → (a + u.count 0) % 3 = 0 → (b + u.count 1) % 3 = 0 → (c + u.count 2) % 3 = 0 → (d + u.count 3) % 3 = 0 →
    srch (u.reverse ++ w) 0 (2 * kd4 (a + u.count 0) (b + u.count 1) (c + u.count 2) (d + u.count 3)) (qu (a + u.count 0) (b + u.count 1) (c + u.count 2) (d + u.count 3)) = true
  | 0, a, b, c, d, w, h, u, hl, hu, h0, h1, h2, h3 => by
    have e := List.length_eq_zero_iff.1 hl
    subst e
    simp only [List.count_nil, Nat.add_zero] at h0 h1 h2 h3 ⊢
    unfold gw at h
    rw [if_neg (by unfold dfc; omega)] at h
    exact h
  | n + 1, a, b, c, d, w, h, u, hl, hu, h0, h1, h2, h3 => by
    have hc := cnt4 u hu
    unfold gw at h
    rw [if_neg (by unfold dfc; omega), Bool.and_eq_true_iff, Bool.and_eq_true_iff, Bool.and_eq_true_iff] at h
    cases u with
    | nil => simp at hl
    | cons k u =>
      have hk := hu k (List.mem_cons_self ..)
      have hu' : ∀ x ∈ u, x < 4 := fun x hx => hu x (List.mem_cons_of_mem _ hx)
      have hl' : u.length = n := by rw [List.length_cons] at hl; omega
      rw [List.reverse_cons, List.append_assoc, List.singleton_append]
      have e : k = 0 ∨ k = 1 ∨ k = 2 ∨ k = 3 := by omega
      rcases e with rfl | rfl | rfl | rfl
      · have e0 : (0 :: u).count 0 = u.count 0 + 1 := by simp
        have e1 : (0 :: u).count 1 = u.count 1 := by simp
        have e2 : (0 :: u).count 2 = u.count 2 := by simp
        have e3 : (0 :: u).count 3 = u.count 3 := by simp
        rw [e0] at h0; rw [e1] at h1; rw [e2] at h2; rw [e3] at h3; rw [e0, e1, e2, e3]
        have := gw_ok n (a + 1) b c d _ h.1 u hl' hu' (by omega) h1 h2 h3
        rw [show a + 1 + u.count 0 = a + (u.count 0 + 1) by omega] at this
        exact this
      · have e0 : (1 :: u).count 0 = u.count 0 := by simp
        have e1 : (1 :: u).count 1 = u.count 1 + 1 := by simp
        have e2 : (1 :: u).count 2 = u.count 2 := by simp
        have e3 : (1 :: u).count 3 = u.count 3 := by simp
        rw [e0] at h0; rw [e1] at h1; rw [e2] at h2; rw [e3] at h3; rw [e0, e1, e2, e3]
        have := gw_ok n a (b + 1) c d _ h.2.1 u hl' hu' h0 (by omega) h2 h3
        rw [show b + 1 + u.count 1 = b + (u.count 1 + 1) by omega] at this
        exact this
      · have e0 : (2 :: u).count 0 = u.count 0 := by simp
        have e1 : (2 :: u).count 1 = u.count 1 := by simp
        have e2 : (2 :: u).count 2 = u.count 2 + 1 := by simp
        have e3 : (2 :: u).count 3 = u.count 3 := by simp
        rw [e0] at h0; rw [e1] at h1; rw [e2] at h2; rw [e3] at h3; rw [e0, e1, e2, e3]
        have := gw_ok n a b (c + 1) d _ h.2.2.1 u hl' hu' h0 h1 (by omega) h3
        rw [show c + 1 + u.count 2 = c + (u.count 2 + 1) by omega] at this
        exact this
      · have e0 : (3 :: u).count 0 = u.count 0 := by simp
        have e1 : (3 :: u).count 1 = u.count 1 := by simp
        have e2 : (3 :: u).count 2 = u.count 2 := by simp
        have e3 : (3 :: u).count 3 = u.count 3 + 1 := by simp
        rw [e0] at h0; rw [e1] at h1; rw [e2] at h2; rw [e3] at h3; rw [e0, e1, e2, e3]
        have := gw_ok n a b c (d + 1) _ h.2.2.2 u hl' hu' h0 h1 h2 (by omega)
        rw [show d + 1 + u.count 3 = d + (u.count 3 + 1) by omega] at this
        exact this
theorem gw_tab : (gw 3 0 0 0 0 [] && (gw 6 0 0 0 0 [] && gw 9 0 0 0 0 [])) = true := by decide +kernel
/-- Rows of at most nine: two cuts a kind are enough. -/
theorem nl_two (ks : List Nat) (h9 : ks.length ≤ 9) (hu : ∀ k ∈ ks, k < 4) (h0 : ks.count 0 % 3 = 0) (h1 : ks.count 1 % 3 = 0) (h2 : ks.count 2 % 3 = 0) (h3 : ks.count 3 % 3 = 0) (rows : Rws)
    (hR : Rel (qu (ks.count 0) (ks.count 1) (ks.count 2) (ks.count 3)) rows) : nl ks.length ks 0 rows ≤ 2 * ((kd4 (ks.count 0) (ks.count 1) (ks.count 2) (ks.count 3) : Nat) : Int) := by
  by_cases hk : ks = []
  · subst hk
    show (0 : Int) ≤ _
    omega
  have hc := cnt4 ks hu
  have ht := Bool.and_eq_true_iff.1 gw_tab
  have ht2 := Bool.and_eq_true_iff.1 ht.2
  have hpos : 0 < ks.length := List.length_pos_iff.2 hk
  have tab : gw ks.length 0 0 0 0 [] = true := by
    have e : ks.length = 3 ∨ ks.length = 6 ∨ ks.length = 9 := by omega
    rcases e with e | e | e <;> rw [e]
    · exact ht.1
    · exact ht2.1
    · exact ht2.2
  have hs := gw_ok _ 0 0 0 0 [] tab ks.reverse (List.length_reverse) (fun k hk => hu k (List.mem_reverse.1 hk)) (by rw [List.count_reverse]; omega) (by rw [List.count_reverse]; omega) (by rw [List.count_reverse]; omega) (by rw [List.count_reverse]; omega)
  rw [List.reverse_reverse, List.append_nil] at hs
  simp only [List.count_reverse, Nat.zero_add] at hs
  obtain ⟨ps, g1, g2⟩ := srch_ok ks 0 _ _ rows (by omega) hu hR hs
  have hk4 : kd4 (ks.count 0) (ks.count 1) (ks.count 2) (ks.count 3) ≤ 4 := by unfold kd4 o1; split <;> split <;> split <;> split <;> omega
  refine (nl_top hk 0 rows _ (by omega)).2 ⟨ps, g1, ?_⟩
  have : cc ps ≤ cc (0 :: ps) := by
    cases ps with
    | nil => exact Int.le_refl _
    | cons p ps =>
      show cc (p :: ps) ≤ (if p ≠ 0 then 1 else 0) + cc (p :: ps)
      split <;> omega
  omega
end Go.Proofs.YtafjjbkkcedgnaaDoor.QFnHalfWindows
/-! Windows that hold half: when there is one, and what it holds; three share with two cuts a kind: for every input; there are no conditions. -/
namespace Go.Proofs.YtafjjbkkcedgnaaDoor.Pure
open Go.RowKit Go.Proofs.YtafjjbkkcedgnaaDoorOwn Go.Proofs.YtafjjbkkcedgnaaDoor.PFnHalfWindows Go.Proofs.YtafjjbkkcedgnaaDoorW.PrintWords Go.Proofs.YtafjjbkkcedgnaaDoorW.PrintLast Go.Proofs.YtafjjbkkcedgnaaDoorW.PrintMore Go.Proofs.YtafjjbkkcedgnaaDoor.QFnHalfWindows
set_option linter.unusedVariables false
set_option linter.unusedSectionVars false
set_option maxRecDepth 100000
theorem any_drop {p : Int → Bool} {l : List Int} {i : Nat} (h : i < l.length) : (l.drop i).any p = (p (rd l i) || (l.drop (i + 1)).any p) := by
  have e : rd l (i : Int) = l[i] := by rw [rd_nat, List.getD_eq_getElem?_getD, List.getElem?_eq_getElem h]; rfl
  rw [List.drop_eq_getElem_cons h, List.any_cons, e]
theorem third_loop (cs : List Int) (hl : cs.length ≤ 1000) : ∀ d i : Nat, i + d = cs.length → ∃ r : Int, Ev (fun k => slices_IndexFunc_int_int__impl_FewestForThree_1.l0 k cs (cs.length : Int) (i : Int)) r ∧ decide (r ≥ 0) = (cs.drop i).any fun x => Int.tmod x 3 != 0
  | 0, i, h => by
    refine ⟨-1, Ev.step (fun f => slices_IndexFunc_int_int__impl_FewestForThree_1.l0.eq_2 ..) (ev_neg (by omega) (Ev.now _)), ?_⟩
    rw [List.drop_eq_nil_of_le (by omega)]
    rfl
  | d + 1, i, h => by
    rw [any_drop (show i < cs.length by omega)]
    cases hm : (Int.tmod (rd cs i) 3 != 0) with
    | true =>
      refine ⟨i, Ev.step (fun f => slices_IndexFunc_int_int__impl_FewestForThree_1.l0.eq_2 ..) (ev_pos (by omega) (ev_pos (by omega) (ev_pos (by omega) (ev_bind0 (a := true) (by unfold impl_FewestForThree_1.f; rw [hm]) (ev_pos rfl (Ev.now _)))))), ?_⟩
      rw [Bool.true_or]
      exact decide_eq_true (by omega)
    | false =>
      obtain ⟨r, h1, h2⟩ := third_loop cs hl d (i + 1) (by omega)
      refine ⟨r, Ev.step (fun f => slices_IndexFunc_int_int__impl_FewestForThree_1.l0.eq_2 ..) (ev_pos (by omega) (ev_pos (by omega) (ev_pos (by omega) (ev_bind0 (a := false) (by unfold impl_FewestForThree_1.f; rw [hm]) (ev_neg (by decide) ?_))))), ?_⟩
      · rw [wr (by omega) (by omega)]
        exact h1
      · rw [Bool.false_or]; exact h2
theorem good_cnt {s : ByteArray} (h : neckl s = true) (h9 : ¬ (s.size : Int) > 9) : goodThree s (cntL s.data.toList) = true := by
  unfold goodThree
  have h1 := neckl_size h
  have h2 := size_list s
  simp only [Bool.and_eq_true, decide_eq_true_eq, List.all_eq_true]
  refine ⟨⟨⟨by omega, fun b hb => ?_⟩, rfl⟩, fun x hx => ?_⟩
  · have := kind_cases (List.all_eq_true.1 (neckl_beads h) b hb)
    omega
  · obtain ⟨i, hi, e⟩ := List.getElem_of_mem hx
    have := cntL_le s.data.toList i
    rw [rd_nat, List.getD_eq_getElem?_getD, List.getElem?_eq_getElem hi, Option.getD_some, e] at this
    omega
theorem impl_rev (s : ByteArray) : impl_ReverseBeads.f s = some (if neckl s = true then (⟨s.data.toList.reverse.toArray⟩, true) else ((⟨#[]⟩ : ByteArray), false)) := by
  unfold impl_ReverseBeads.f
  rw [isNecklace_ev, Option.bind_some]
  cases h : neckl s with
  | false => rfl
  | true =>
    have hs : s.size ≤ 16 := by
      unfold neckl at h
      exact of_decide_eq_true (Bool.and_eq_true_iff.1 h).1
    rw [if_pos rfl, if_pos rfl, if_pos (by omega)]
/-! ### three -/
/-- What both tell of three. -/
theorem three_two (s : ByteArray) : ∃ p : Int × Bool, Ev (fun k => impl_FewestForThree.f k s) p ∧ Ev (fun k => spec_FewestForThree.f k s) p ∧ (p.2 = false ∨ neckl s = true ∧ s.size ≤ 9 ∧ badThird (cntL s.data.toList) = false ∧ p = (nl s.size (ksOf s) 0 (thirds (cntL s.data.toList)), true)) := by
  have e := nlGood_ev s
  have e2 := isNecklace_ev s
  cases hn : neckl s with
  | false =>
    rw [hn] at e e2
    exact ⟨(0, false), ev_bind0 e2 (ev_neg Bool.false_ne_true (Ev.now _)), Ev.bind e (ev_neg Bool.false_ne_true (Ev.now _)), .inl rfl⟩
  | true =>
    rw [hn] at e e2
    have hb := neckl_beads hn
    have hs := neckl_size hn
    by_cases h9 : (s.size : Int) > 9
    · exact ⟨(0, false), ev_bind0 e2 (ev_pos rfl (ev_pos h9 (Ev.now _))), Ev.bind e (ev_pos rfl (ev_pos h9 (Ev.now _))), .inl rfl⟩
    · have hg := good_cnt hn h9
      obtain ⟨r, hr1, hr2⟩ := third_loop (cntL s.data.toList) (by rw [cntL_len]; omega) 4 0 (by rw [cntL_len])
      rw [List.drop_zero] at hr2
      have hbad : Ev (fun k => slices_ContainsFunc_int_int__impl_FewestForThree_1.f k (cntL s.data.toList)) (badThird (cntL s.data.toList)) := Ev.bind hr1 (ev_eq (Ev.now _) hr2)
      cases hbt : badThird (cntL s.data.toList) with
      | true =>
        rw [hbt] at hbad
        refine ⟨(0, false), ev_bind0 e2 (ev_pos rfl (ev_neg h9 (Ev.bind (counts_ev s hb (by omega)) (Ev.bind hbad (ev_pos rfl (Ev.now _)))))), Ev.bind e (ev_pos rfl (ev_neg h9 (Ev.bind (nlCounts_ev s hb (by omega)) (ev_const ?_)))), .inl rfl⟩
        unfold spec_FewestForThree.g
        rw [if_pos hg, hbt, if_pos rfl]
      | false =>
        rw [hbt] at hbad
        refine ⟨(nl s.size (ksOf s) 0 (thirds (cntL s.data.toList)), true), ev_bind0 e2 (ev_pos rfl (ev_neg h9 (Ev.bind (counts_ev s hb (by omega)) (Ev.bind hbad (ev_neg Bool.false_ne_true (ev_pos hg (Ev.now _))))))), Ev.bind e (ev_pos rfl (ev_neg h9 (Ev.bind (nlCounts_ev s hb (by omega)) (ev_const ?_)))), .inr ⟨rfl, by omega, rfl, rfl⟩⟩
        unfold spec_FewestForThree.g
        rw [if_pos hg, hbt, if_neg Bool.false_ne_true]
theorem cnt_ks : ∀ (l : List UInt8), l.all isBead = true → ∀ k : Nat, k < 4 → (((l.map fun b => b.toNat - 97).count k : Nat) : Int) = cn (97 + k) l
  | [], _, k, _ => rfl
  | b :: l, h, k, hk => by
    have hb := kind_cases (List.all_eq_true.1 h b (List.mem_cons_self ..))
    have ih := cnt_ks l (List.all_eq_true.2 fun x hx => List.all_eq_true.1 h x (List.mem_cons_of_mem _ hx)) k hk
    rw [List.map_cons, List.count_cons, show b :: l = [b] ++ l from rfl, cn_app]
    have one : cn (97 + k) [b] = if b.toNat = 97 + k then 1 else 0 := by have := cn_snoc (97 + k) [] b; rw [List.nil_append] at this; rw [this]; unfold cn; simp
    rw [one]
    by_cases e : b.toNat = 97 + k
    · rw [if_pos e, if_pos (by simp; omega)]; omega
    · rw [if_neg e, if_neg (by simp; omega)]; omega
theorem thirds_nn (L : List UInt8) : ∀ p k, 0 ≤ thirds (cntL L) p k := fun p k => by
  have h := cntL_le L k
  unfold thirds
  rw [Int.tdiv_eq_ediv_of_nonneg h.1]
  omega
theorem bad_mod {L : List UInt8} (h : badThird (cntL L) = false) : cn 97 L % 3 = 0 ∧ cn 98 L % 3 = 0 ∧ cn 99 L % 3 = 0 ∧ cn 100 L % 3 = 0 := by
  unfold badThird cntL at h
  simp only [List.any_cons, List.any_nil, Bool.or_false, Bool.or_eq_false_iff, bne_eq_false_iff_eq] at h
  have t : ∀ v, Int.tmod (cn v L) 3 = cn v L % 3 := fun v => Int.tmod_eq_emod_of_nonneg (cn_le v L).1
  rw [t, t, t, t] at h
  exact h
theorem ks_len (s : ByteArray) : (ksOf s).length = s.size := by unfold ksOf; rw [List.length_map, size_list]
theorem ks_lt {s : ByteArray} (hb : beads s = true) : ∀ k ∈ ksOf s, k < 4 := fun k hk => by
  unfold ksOf at hk
  obtain ⟨b, h1, h2⟩ := List.mem_map.1 hk
  have := kind_cases (List.all_eq_true.1 hb b h1)
  omega
/-- The kinds counted. -/
theorem kn_kd4 (L : List UInt8) (a b c d : Nat) (ha : (a : Int) = cn 97 L) (hb : (b : Int) = cn 98 L) (hc : (c : Int) = cn 99 L) (hd : (d : Int) = cn 100 L) : kn (cntL L) = ((kd4 a b c d : Nat) : Int) := by
  unfold kn cntL kd4 o1
  rw [← ha, ← hb, ← hc, ← hd]
  simp only [List.countP_cons, List.countP_nil, decide_eq_true_eq]
  have z : ∀ x : Nat, (if (0 : Int) < (x : Int) then 1 else 0 : Nat) = if x = 0 then 0 else 1 := fun x => by
    by_cases e : x = 0
    · rw [if_pos e, if_neg (by omega)]
    · rw [if_neg e, if_pos (by omega)]
  rw [z, z, z, z]
  omega
theorem three_bound {s : ByteArray} (hn : neckl s = true) (h9 : s.size ≤ 9) (hm : badThird (cntL s.data.toList) = false) :
    nl s.size (ksOf s) 0 (thirds (cntL s.data.toList)) ≤ 2 * kn (cntL s.data.toList) ∧ (0 < s.size → 1 ≤ nl s.size (ksOf s) 0 (thirds (cntL s.data.toList))) := by
  have hb := neckl_beads hn
  obtain ⟨m0, m1, m2, m3⟩ := bad_mod hm
  have c0 : (((ksOf s).count 0 : Nat) : Int) = cn 97 s.data.toList := cnt_ks _ hb 0 (by omega)
  have c1 : (((ksOf s).count 1 : Nat) : Int) = cn 98 s.data.toList := cnt_ks _ hb 1 (by omega)
  have c2 : (((ksOf s).count 2 : Nat) : Int) = cn 99 s.data.toList := cnt_ks _ hb 2 (by omega)
  have c3 : (((ksOf s).count 3 : Nat) : Int) = cn 100 s.data.toList := cnt_ks _ hb 3 (by omega)
  have row : ∀ p k, k < 4 → thirds (cntL s.data.toList) p k = (((ksOf s).count k / 3 : Nat) : Int) := fun p k hk => by
    have hc := cnt_ks _ hb k hk
    have h := cntL_le s.data.toList k
    unfold thirds
    rw [Int.tdiv_eq_ediv_of_nonneg h.1]
    have e : rd (cntL s.data.toList) (k : Int) = cn (97 + k) s.data.toList := by
      match k, hk with
      | 0, _ => rfl
      | 1, _ => rfl
      | 2, _ => rfl
      | 3, _ => rfl
    rw [e, ← hc]
    show ((((ksOf s).count k : Nat) : Int) / 3) = _
    omega
  have hR : Rel (qu ((ksOf s).count 0) ((ksOf s).count 1) ((ksOf s).count 2) ((ksOf s).count 3)) (thirds (cntL s.data.toList)) := by
    refine ⟨rfl, fun p k hp hk => ?_⟩
    rw [row p k hk]
    have ep : p = 0 ∨ p = 1 ∨ p = 2 := by omega
    have ek : k = 0 ∨ k = 1 ∨ k = 2 ∨ k = 3 := by omega
    rcases ep with rfl | rfl | rfl <;> rcases ek with rfl | rfl | rfl | rfl <;> rfl
  have hl := ks_len s
  constructor
  · have := nl_two (ksOf s) (by omega) (ks_lt hb) (by omega) (by omega) (by omega) (by omega) (thirds (cntL s.data.toList)) hR
    rw [hl] at this
    rw [kn_kd4 _ _ _ _ _ c0 c1 c2 c3]
    exact this
  · intro hp
    have := nl_zero (ks := ksOf s) (fun z => by rw [z] at hl; simp at hl; omega) 0 (thirds (cntL s.data.toList)) (thirds_nn _) (fun p k hk => by
      have h4 := ks_lt hb k hk
      rw [row p k h4]
      have : 0 < (ksOf s).count k := List.count_pos_iff.2 hk
      omega)
    rw [hl] at this
    exact this
/-- The same from the back. -/
theorem cn_rev (v : Nat) (l : List UInt8) : cn v l.reverse = cn v l := by unfold cn; rw [List.countP_reverse]
theorem cntL_rev (l : List UInt8) : cntL l.reverse = cntL l := by unfold cntL; rw [cn_rev, cn_rev, cn_rev, cn_rev]
theorem size_rev (s : ByteArray) : (⟨s.data.toList.reverse.toArray⟩ : ByteArray).size = s.size := by
  rw [← size_list, ← size_list]
  show (s.data.toList.reverse.toArray.toList).length = _
  rw [List.length_reverse]
theorem three_rev {s : ByteArray} (hn : neckl s = true) (h9 : s.size ≤ 9) (hm : badThird (cntL s.data.toList) = false) :
    Ev (fun k => impl_FewestForThree.f k (⟨s.data.toList.reverse.toArray⟩ : ByteArray)) (nl s.size (ksOf s) 0 (thirds (cntL s.data.toList)), true) := by
  have hn' : neckl (⟨s.data.toList.reverse.toArray⟩ : ByteArray) = true := by
    unfold neckl beads
    rw [size_rev]
    have h1 := neckl_size hn
    have h2 : (s.data.toList.reverse).all isBead = true := by rw [List.all_reverse]; exact neckl_beads hn
    rw [decide_eq_true h1]
    exact h2
  have ec : cntL (⟨s.data.toList.reverse.toArray⟩ : ByteArray).data.toList = cntL s.data.toList := cntL_rev _
  have ek : ksOf (⟨s.data.toList.reverse.toArray⟩ : ByteArray) = (ksOf s).reverse := by unfold ksOf; rw [← List.map_reverse]
  have hg := good_cnt hn' (by rw [size_rev]; omega)
  obtain ⟨p, g1, _, g3⟩ := three_two (⟨s.data.toList.reverse.toArray⟩ : ByteArray)
  have e2 := isNecklace_ev (⟨s.data.toList.reverse.toArray⟩ : ByteArray)
  rw [hn'] at e2
  have hb' := neckl_beads hn'
  obtain ⟨r, hr1, hr2⟩ := third_loop (cntL s.data.toList) (by rw [cntL_len]; omega) 4 0 (by rw [cntL_len])
  rw [List.drop_zero] at hr2
  have hbad : Ev (fun k => slices_ContainsFunc_int_int__impl_FewestForThree_1.f k (cntL s.data.toList)) (badThird (cntL s.data.toList)) := Ev.bind hr1 (ev_eq (Ev.now _) hr2)
  rw [hm] at hbad
  have hc := counts_ev _ hb' (by rw [size_rev]; omega)
  rw [ec] at hc hg
  refine ev_bind0 e2 (ev_pos rfl (ev_neg (by rw [size_rev]; omega) (Ev.bind hc (Ev.bind hbad (ev_neg Bool.false_ne_true (ev_pos hg (ev_eq (Ev.now _) ?_)))))))
  have hl := ks_len s
  have := nl_rev (ksOf s) 0 (thirds (cntL s.data.toList)) (thirds_nn _)
  rw [List.length_reverse, hl] at this
  rw [ek, size_rev, this]
/-! ### the law -/
theorem j6_ev {l : List Int} (h : U8 l) : Ev (fun f => laws_FnHalfWindows.j6 f l false) true := by
  obtain ⟨s, hs⟩ := drawThree h
  obtain ⟨⟨v, b⟩, g1, g2, g3⟩ := three_two s
  refine Ev.step (fun f => laws_FnHalfWindows.j6.eq_2 ..) (ev_neg Bool.false_ne_true (Ev.bind hs (Ev.bind g1 (Ev.bind g2 (ev_neg (by rw [bne_self_eq_false]; exact Bool.false_ne_true) ?_)))))
  dsimp only
  rw [bne_self_eq_false]
  refine Ev.step (fun f => laws_FnHalfWindows.j7.eq_2 ..) (ev_neg Bool.false_ne_true ?_)
  rcases g3 with e | ⟨hn, h9, hm, e⟩
  · dsimp only at e
    subst e
    exact ev_neg Bool.false_ne_true (Ev.now _)
  · obtain ⟨e1, e2⟩ := Prod.mk.inj e
    subst e1 e2
    have hb := neckl_beads hn
    have hk : Ev (fun k => impl_KindsOfBeads.f k s) (kn (cntL s.data.toList), true) := ev_bind0 (isNecklace_ev s) (ev_pos hn (Ev.bind (kinds_ev s hb (by omega)) (Ev.now _)))
    have hr := impl_rev s
    rw [if_pos hn] at hr
    obtain ⟨b1, b2⟩ := three_bound hn h9 hm
    have hkl := kn_le (cntL s.data.toList)
    rw [cntL_len] at hkl
    refine ev_pos rfl (Ev.bind hk (ev_bind0 hr (Ev.bind (three_rev hn h9 hm) (ev_pos rfl (ev_pos rfl (ev_pos rfl (ev_pos rfl (ev_pos ?_ (ev_eq (Ev.now _) ?_)))))))))
    · dsimp only
      rw [wr (by omega) (by omega)]
      exact b1
    · by_cases hz : s.size = 0
      · have ez : ksOf s = [] := List.length_eq_zero_iff.1 (by rw [ks_len]; exact hz)
        rw [ez, hz]
        rfl
      · have := b2 (by omega)
        rw [beq_eq_false_iff_ne.2 (show (s.size : Int) ≠ 0 by omega), beq_eq_false_iff_ne.2 (show nl s.size (ksOf s) 0 (thirds (cntL s.data.toList)) ≠ 0 by omega)]
        rfl
theorem j5_ev {l : List Int} (h : U8 l) : Ev (fun f => laws_FnHalfWindows.j5 f l) true := by
  obtain ⟨⟨s, a1, a2⟩, hs⟩ := drawWin h
  obtain ⟨⟨L, b⟩, g1, g2, g3, g4⟩ := win_any s a1 a2
  dsimp only at g3 g4
  have sm := same_ev L (by omega)
  refine Ev.step (fun f => laws_FnHalfWindows.j5.eq_2 ..) (Ev.bind hs (Ev.bind g1 (Ev.bind g2 (ev_neg (by rw [bne_self_eq_false]; exact Bool.false_ne_true) (Ev.bind sm (ev_pos rfl ?_))))))
  cases b with
  | false => exact ev_neg Bool.false_ne_true (j6_ev h)
  | true =>
    refine ev_pos rfl (Ev.bind (g4 rfl) ?_)
    dsimp only
    rw [bne_self_eq_false]
    exact j6_ev h
theorem l1_ev {l : List Int} (h : U8 l) (s : ByteArray) (hn : neckl s = true) {a : Nat} (ha : a ≤ s.size / 2) (hp : 0 < s.size) (hA : allF (cntL (winL s a (s.size / 2))) (cntL s.data.toList) 4 0 = true) (hB : ∀ c, c < a → allF (cntL (winL s c (s.size / 2))) (cntL s.data.toList) 4 0 = false) :
    ∀ d i : Nat, i + d = a → Ev (fun f => laws_FnHalfWindows.l1 f l s (a : Int) (cntL (winL s a (s.size / 2))) (i : Int)) true
  | 0, i, hi => Ev.step (fun f => laws_FnHalfWindows.l1.eq_2 ..) (ev_neg (by omega) (j5_ev h))
  | d + 1, i, hi => by
    have hs := neckl_size hn
    have ei : True → wrap64 ((i : Int) + 1) = ((i + 1 : Nat) : Int) := fun _ => by rw [wr (by omega) (by omega)]; omega
    have g := (win_two s hn (a := i) (n := s.size / 2) (by omega) (by omega)).1
    have ne : ¬ cntL (winL s i (s.size / 2)) = cntL (winL s a (s.size / 2)) := fun z => by
      have := hB i (by omega)
      rw [z, hA] at this
      cases this
    have zs := zsame_ev (cntL (winL s i (s.size / 2))) (cntL (winL s a (s.size / 2))) (by rw [cntL_len]; omega) rfl
    rw [decide_eq_false ne] at zs
    refine Ev.step (fun f => laws_FnHalfWindows.l1.eq_2 ..) (ev_pos (by omega) ?_)
    rw [half_w s (by omega), ei trivial]
    exact Ev.bind g (ev_pos rfl (Ev.bind zs (ev_neg Bool.false_ne_true (l1_ev h s hn ha hp hA hB d (i + 1) (by omega)))))
theorem l0_ev {l : List Int} (h : U8 l) (s : ByteArray) (hn : neckl s = true) {a : Nat} (ha : a ≤ s.size / 2) (hp : 0 < s.size) (hA : allF (cntL (winL s a (s.size / 2))) (cntL s.data.toList) 4 0 = true) (hB : ∀ c, c < a → allF (cntL (winL s c (s.size / 2))) (cntL s.data.toList) 4 0 = false) :
    ∀ d i : Nat, i + d = 4 → Ev (fun f => laws_FnHalfWindows.l0 f l s (a : Int) (cntL s.data.toList) (cntL (winL s a (s.size / 2))) (cntL (winL s a (s.size / 2))) ((cntL (winL s a (s.size / 2))).length : Int) (i : Int)) true
  | 0, i, hi => Ev.step (fun f => laws_FnHalfWindows.l0.eq_2 ..) (ev_neg (by rw [cntL_len]; omega) (l1_ev h s hn ha hp hA hB a 0 (Nat.zero_add _)))
  | d + 1, i, hi => by
    have hs := neckl_size hn
    have ei : True → wrap64 ((i : Int) + 1) = ((i + 1 : Nat) : Int) := fun _ => by rw [wr (by omega) (by omega)]; omega
    have hw := win_le s (by omega) a (s.size / 2) (by omega) i
    have e := allF_at hA i (by omega)
    have e2 : True → wrap64 (2 * rd (cntL (winL s a (s.size / 2))) (i : Int)) = rd (cntL s.data.toList) (i : Int) := fun _ => by rw [wr (by omega) (by omega)]; exact e
    refine Ev.step (fun f => laws_FnHalfWindows.l0.eq_2 ..) (ev_pos (by rw [cntL_len]; omega) (ev_pos (by omega) (ev_pos (by rw [cntL_len]; omega) (ev_pos (by rw [cntL_len]; omega) (ev_pos (e2 trivial) ?_)))))
    rw [ei trivial]
    exact l0_ev h s hn ha hp hA hB d (i + 1) (by omega)
theorem j1_none {l : List Int} (h : U8 l) (s : ByteArray) (v : Int) : Ev (fun f => laws_FnHalfWindows.j1 f l s v false false) true :=
  Ev.step (fun f => laws_FnHalfWindows.j1.eq_2 ..) (ev_neg Bool.false_ne_true (ev_neg Bool.false_ne_true (j5_ev h)))
theorem j1_some {l : List Int} (h : U8 l) (s : ByteArray) (hn : neckl s = true) (hp : 0 < s.size) (he : evens s.data.toList = true) {a : Nat} (ha : a ≤ s.size / 2) (hA : allF (cntL (winL s a (s.size / 2))) (cntL s.data.toList) 4 0 = true) (hB : ∀ c, c < a → allF (cntL (winL s c (s.size / 2))) (cntL s.data.toList) 4 0 = false) :
    Ev (fun f => laws_FnHalfWindows.j1 f l s (a : Int) true false) true := by
  have hb := neckl_beads hn
  have hs := neckl_size hn
  have hsum := cn_sum s.data.toList hb
  rw [size_list] at hsum
  have v0 := evens_at he (v := 97) (by omega)
  have v1 := evens_at he (v := 98) (by omega)
  have v2 := evens_at he (v := 99) (by omega)
  have v3 := evens_at he (v := 100) (by omega)
  have hh : s.size = 2 * (s.size / 2) := by omega
  have hc : Ev (fun k => impl_CountsOfBeads.f k s) (cntL s.data.toList, true) := ev_bind0 (isNecklace_ev s) (ev_pos hn (Ev.bind (counts_ev s hb (by omega)) (Ev.now _)))
  have g1 := (win_two s hn (a := a) (n := s.size / 2) (by omega) (by omega)).1
  obtain ⟨a', ha', hlt, hx⟩ : ∃ a' : Nat, Int.tmod (wrap64 ((a : Int) + ((s.size / 2 : Nat) : Int))) (s.size : Int) = (a' : Int) ∧ a' < s.size ∧ ∀ v, cn v (winL s a (s.size / 2)) + cn v (winL s a' (s.size / 2)) = cn v s.data.toList := by
    rw [wr (by omega) (by omega), show (a : Int) + ((s.size / 2 : Nat) : Int) = ((a + s.size / 2 : Nat) : Int) by omega, Int.tmod_eq_emod_of_nonneg (by omega)]
    by_cases e : a < s.size / 2
    · refine ⟨a + s.size / 2, ?_, by omega, fun v => across s _ hh v e⟩
      rw [← Int.natCast_emod, Nat.mod_eq_of_lt (by omega)]
    · have ea : a = s.size / 2 := by omega
      refine ⟨0, ?_, hp, fun v => ?_⟩
      · rw [← Int.natCast_emod, show a + s.size / 2 = s.size by omega, Nat.mod_self]
      · have := across0 s _ hh v
        rw [← ea] at this ⊢
        omega
  have g2 := (win_two s hn (a := a') (n := s.size / 2) hlt (by omega)).1
  have eqw : cntL (winL s a (s.size / 2)) = cntL (winL s a' (s.size / 2)) := by
    have q0 := allF_at hA 0 (by omega)
    have q1 := allF_at hA 1 (by omega)
    have q2 := allF_at hA 2 (by omega)
    have q3 := allF_at hA 3 (by omega)
    rw [(rd_cn _).1, (rd_cn _).1] at q0
    rw [(rd_cn _).2.1, (rd_cn _).2.1] at q1
    rw [(rd_cn _).2.2.1, (rd_cn _).2.2.1] at q2
    rw [(rd_cn _).2.2.2, (rd_cn _).2.2.2] at q3
    have x0 := hx 97
    have x1 := hx 98
    have x2 := hx 99
    have x3 := hx 100
    unfold cntL
    rw [show cn 97 (winL s a (s.size / 2)) = cn 97 (winL s a' (s.size / 2)) by omega, show cn 98 (winL s a (s.size / 2)) = cn 98 (winL s a' (s.size / 2)) by omega, show cn 99 (winL s a (s.size / 2)) = cn 99 (winL s a' (s.size / 2)) by omega, show cn 100 (winL s a (s.size / 2)) = cn 100 (winL s a' (s.size / 2)) by omega]
  have zs := same_ev (cntL (winL s a (s.size / 2))) (by rw [cntL_len]; omega)
  refine Ev.step (fun f => laws_FnHalfWindows.j1.eq_2 ..) (ev_neg Bool.false_ne_true (ev_pos rfl (Ev.bind hc ?_)))
  rw [half_w s (by omega), ha']
  refine Ev.bind g1 (ev_neg (by omega) (Ev.bind g2 (ev_pos rfl (ev_pos rfl (ev_pos rfl ?_)))))
  dsimp only
  rw [← eqw]
  exact Ev.bind zs (Ev.step (fun f => laws_FnHalfWindows.j2.eq_2 ..) (ev_neg (by decide) (l0_ev h s hn ha hp hA hB 4 0 rfl)))
theorem FnHalfWindows : laws_FnHalfWindows.Pure := by
  intro l0 l1 _ _ u0 _ _ u1
  apply Ev.rounds
  obtain ⟨b, hb⟩ : ∃ b, laws_big.f l0 l1 = some b := by
    unfold laws_big.f
    split <;> exact ⟨_, rfl⟩
  refine ev_bind0 hb ?_
  cases b with
  | true => exact ev_pos rfl (Ev.now _)
  | false =>
    refine ev_neg Bool.false_ne_true ?_
    obtain ⟨s, hs⟩ := drawHalf u0
    obtain ⟨⟨v, b⟩, g1, g2, g3, g4⟩ := half_two s
    dsimp only at g3 g4
    refine Ev.bind hs (Ev.bind g1 (Ev.bind g2 (ev_neg (by rw [bne_self_eq_false]; exact Bool.false_ne_true) ?_)))
    dsimp only
    rw [bne_self_eq_false]
    have e2 := isNecklace_ev s
    cases hn : neckl s with
    | false =>
      rw [hn] at g3 e2
      have hbf : b = false := g3
      subst hbf
      have k1 : Ev (fun k => impl_KindsOfBeads.f k s) (0, false) := ev_bind0 e2 (ev_neg Bool.false_ne_true (Ev.now _))
      have k2 : Ev (fun k => impl_FewestCuts.f k s) (0, false) := ev_bind0 e2 (ev_neg Bool.false_ne_true (Ev.now _))
      exact Ev.step (fun f => laws_FnHalfWindows.j0.eq_2 ..) (ev_neg Bool.false_ne_true (Ev.bind k1 (Ev.bind k2 (ev_neg Bool.false_ne_true (j1_none u1 s v)))))
    | true =>
      rw [hn] at g3 e2
      have hbd := neckl_beads hn
      have hsz := neckl_size hn
      have k1 : Ev (fun k => impl_KindsOfBeads.f k s) (kn (cntL s.data.toList), true) := ev_bind0 e2 (ev_pos rfl (Ev.bind (kinds_ev s hbd (by omega)) (Ev.now _)))
      have hls := leastSplit_ev s hbd hsz
      cases he : evens s.data.toList with
      | false =>
        rw [he] at g3
        have hbf : b = false := by rw [g3]; simp
        subst hbf
        rw [fl_none s he] at hls
        have k2 : Ev (fun k => impl_FewestCuts.f k s) (0, false) := ev_bind0 e2 (ev_pos rfl (Ev.bind hls (Ev.now _)))
        refine Ev.step (fun f => laws_FnHalfWindows.j0.eq_2 ..) (ev_neg Bool.false_ne_true (Ev.bind k1 (Ev.bind k2 (ev_pos rfl ?_))))
        by_cases hp : (s.size : Int) > 0
        · exact ev_pos hp (ev_neg Bool.false_ne_true (j1_none u1 s v))
        · exact ev_neg hp (j1_none u1 s v)
      | true =>
        rw [he] at g3
        obtain ⟨r, hr⟩ := fl_some s hbd hsz he
        rw [hr] at hls
        have k2 : Ev (fun k => impl_FewestCuts.f k s) ((r.length : Int), true) := ev_bind0 e2 (ev_pos rfl (Ev.bind hls (Ev.now _)))
        refine Ev.step (fun f => laws_FnHalfWindows.j0.eq_2 ..) (ev_neg Bool.false_ne_true (Ev.bind k1 (Ev.bind k2 (ev_pos rfl ?_))))
        by_cases hp : 0 < s.size
        · rw [decide_eq_true hp, Bool.true_and, Bool.true_and, Bool.true_and] at g3
          refine ev_pos (by omega) (ev_pos rfl ?_)
          dsimp only
          rw [g3, bne_self_eq_false]
          cases hb2 : decide (kn (cntL s.data.toList) ≤ 2) with
          | false => exact j1_none u1 s v
          | true =>
            obtain ⟨a, ea, h1, h2, h3⟩ := g4 (g3.trans hb2)
            rw [ea]
            exact j1_some u1 s hn hp he h1 h2 h3
        · rw [decide_eq_false hp] at g3
          have hbf : b = false := by rw [g3]; simp
          subst hbf
          exact ev_neg (by omega) (j1_none u1 s v)
end Go.Proofs.YtafjjbkkcedgnaaDoor.Pure
