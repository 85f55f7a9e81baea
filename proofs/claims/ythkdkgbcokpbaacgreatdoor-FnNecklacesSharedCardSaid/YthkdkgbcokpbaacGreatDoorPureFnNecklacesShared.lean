/- The law's text, and what it rests on, in one. -/
import Derived.Test.YthkdkgbcokpbaacGreatDoorPFnNecklacesSharedx
import Derived.Laws.Bits64b
/-! Plain lemmas on numbers and rounds. -/
namespace Go.Proofs.YthkdkgbcokpbaacGreatDoor.QFnNecklacesShared
open Go.RowKit Go.Proofs.YthkdkgbcokpbaacGreatDoor.PFnNecklacesShared Go.Proofs.YthkdkgbcokpbaacGreatDoorW.PrintWords Go.Proofs.YthkdkgbcokpbaacGreatDoorW.PrintLast Go.Proofs.YthkdkgbcokpbaacGreatDoorW.PrintMore
set_option linter.unusedVariables false
set_option linter.unusedSimpArgs false
theorem wr {x : Int} (h : -9223372036854775808 ≤ x) (h' : x ≤ 9223372036854775807) : wrap64 x = x := by unfold wrap64; omega
theorem ev_eq {α : Type} {g : Nat → Option α} {r s : α} (h : Ev g r) (e : r = s) : Ev g s := e ▸ h
theorem ev_const {α : Type} {o : Option α} {r : α} (h : o = some r) : Ev (fun _ => o) r := ⟨0, fun _ _ => h⟩
/-- The values of two runs of one program are the same. -/
theorem ev_one {α : Type} {g : Nat → Option α} {r s : α} (h : Ev g r) (h' : Ev g s) : r = s := by
  obtain ⟨K, h⟩ := h
  obtain ⟨K', h'⟩ := h'
  have a := h (max K K') (by omega)
  have b := h' (max K K') (by omega)
  rw [a] at b
  exact Option.some.inj b
theorem ev_bind0 {α β : Type} {o : Option α} {f : Nat → α → Option β} {a : α} {r : β} (h : o = some a) (k : Ev (fun n => f n a) r) : Ev (fun n => o.bind (f n)) r :=
  Ev.bind (g := fun _ => o) (ev_const h) k
theorem ev_pos {α : Type} {c : Prop} [Decidable c] {f g : Nat → Option α} {r : α} (h : c) (k : Ev f r) : Ev (fun n => if c then f n else g n) r := Ev.congr (fun _ => if_pos h) k
theorem ev_neg {α : Type} {c : Prop} [Decidable c] {f g : Nat → Option α} {r : α} (h : ¬ c) (k : Ev g r) : Ev (fun n => if c then f n else g n) r := Ev.congr (fun _ => if_neg h) k
theorem rd_get {l : List Int} {i : Int} (h0 : 0 ≤ i) (h : i < l.length) : l[i.toNat]? = some (rd l i) := by
  unfold rd
  rw [List.getD_eq_getElem?_getD, List.getElem?_eq_getElem (by omega)]
  rfl
theorem rd_nat (l : List Int) (i : Nat) : rd l (i : Int) = l.getD i 0 := rfl
theorem rd_one (x : Int) : rd [x] 0 = x := rfl
end Go.Proofs.YthkdkgbcokpbaacGreatDoor.QFnNecklacesShared
/-! What the reference's cursor draws: a number within the bounds that were asked for, whatever the bytes are. -/
namespace Go.Proofs.YthkdkgbcokpbaacGreatDoor.QFnNecklacesShared
open Go.RowKit Go.Proofs.YthkdkgbcokpbaacGreatDoor.PFnNecklacesShared Go.Proofs.YthkdkgbcokpbaacGreatDoorW.PrintWords Go.Proofs.YthkdkgbcokpbaacGreatDoorW.PrintLast Go.Proofs.YthkdkgbcokpbaacGreatDoorW.PrintMore
set_option linter.unusedVariables false
set_option linter.unusedSimpArgs false
def U8 (l : List Int) : Prop := ∀ x ∈ l, (Lit.int .u8 x).wf = true
theorem u8_rd {l : List Int} (h : U8 l) (i : Int) : 0 ≤ rd l i ∧ rd l i ≤ 255 := by
  unfold rd
  rw [List.getD_eq_getElem?_getD]
  cases hc : l[i.toNat]? with
  | none => exact ⟨Int.le_refl 0, by decide⟩
  | some x =>
    have h1 := h x (List.mem_of_getElem? hc)
    have h2 := Bool.and_eq_true_iff.1 (show (decide (IntKind.u8.min ≤ x) && decide (x ≤ IntKind.u8.max)) = true from h1)
    have h3 : (0 : Int) ≤ x := of_decide_eq_true h2.1
    have h4 : x ≤ 255 := of_decide_eq_true h2.2
    exact ⟨h3, h4⟩
theorem and255 {x : Int} (h0 : 0 ≤ x) (h1 : x < 18446744073709551616) : 0 ≤ Go.bits .and .u64 x 255 ∧ Go.bits .and .u64 x 255 ≤ 255 := by
  obtain ⟨n, e⟩ := Int.eq_ofNat_of_zero_le h0
  subst e
  have h2 := bits_and_u64_nat n 255 (by omega) (by omega)
  rw [show ((255 : Nat) : Int) = 255 from rfl] at h2
  rw [h2]
  have := @Nat.and_le_right n 255
  omega
theorem next_ev {l : List Int} (h : U8 l) {a : Int} (s : Int) (h0 : 0 ≤ a) (h1 : a < 4611686018427387904) : ∃ v s', spec_l1Cur_next.f l a s = some (v, a + 1, s') ∧ 0 ≤ v ∧ v ≤ 255 := by
  unfold spec_l1Cur_next.f
  have hw : ∀ x : Int, 0 ≤ IntKind.u64.wrap x ∧ IntKind.u64.wrap x < 18446744073709551616 := fun x => by rw [IntKind.wrap_u64]; omega
  have hv : ∀ x : Int, 0 ≤ wrap64 (Go.bits .and .u64 (IntKind.u64.wrap x / 1099511627776) 255) ∧ wrap64 (Go.bits .and .u64 (IntKind.u64.wrap x / 1099511627776) 255) ≤ 255 := fun x => by
    have := hw x
    have h2 := and255 (x := IntKind.u64.wrap x / 1099511627776) (by omega) (by omega)
    rw [wr (by omega) (by omega)]
    exact h2
  rw [wr (show -9223372036854775808 ≤ a + 1 by omega) (by omega)]
  by_cases hl : a < (l.length : Int)
  · have hr := u8_rd h a
    rw [if_pos hl, if_pos h0, wr (show -9223372036854775808 ≤ rd l a by omega) (by omega), if_pos (by omega)]
    exact ⟨_, _, rfl, hr.1, hr.2⟩
  · rw [if_neg hl, if_neg (by omega)]
    exact ⟨_, _, rfl, hv _⟩
theorem pick_ev {l : List Int} (h : U8 l) {a : Int} (s n : Int) (h0 : 0 ≤ a) (h1 : a < 4611686018427387900) : ∃ v a' s', spec_l1Cur_pick.f l a s n = some (v, a', s') ∧ 0 ≤ v ∧ (v < n ∨ v = 0) ∧ a ≤ a' ∧ a' ≤ a + 2 := by
  unfold spec_l1Cur_pick.f
  by_cases hn : n ≤ 1
  · rw [if_pos hn]
    exact ⟨_, _, _, rfl, Int.le_refl 0, .inr rfl, by omega, by omega⟩
  · obtain ⟨v, s1, e1, v0, v1⟩ := next_ev h s h0 (by omega)
    rw [if_neg hn, e1, Option.bind_some]
    by_cases h2 : n > 200
    · obtain ⟨v', s2, e2, w0, w1⟩ := next_ev h s1 (show 0 ≤ a + 1 by omega) (by omega)
      rw [if_pos h2]
      dsimp only
      rw [e2, Option.bind_some, if_neg (by omega)]
      dsimp only
      rw [wr (show -9223372036854775808 ≤ v * 256 by omega) (by omega), wr (show -9223372036854775808 ≤ v * 256 + v' by omega) (by omega)]
      exact ⟨_, _, _, rfl, Int.tmod_nonneg _ (by omega), .inl (Int.tmod_lt_of_pos _ (by omega)), by omega, by omega⟩
    · rw [if_neg h2, if_neg (by omega)]
      exact ⟨_, _, _, rfl, Int.tmod_nonneg _ v0, .inl (Int.tmod_lt_of_pos _ (by omega)), by dsimp only; omega, by dsimp only; omega⟩
theorem among_ev {l : List Int} (h : U8 l) {a : Int} (s : Int) (L : List Int) (hL : 0 < L.length) (h0 : 0 ≤ a) (h1 : a < 4611686018427387900) : ∃ v a' s', spec_l1Cur_among.f l a s L = some (v, a', s') ∧ v ∈ L ∧ a ≤ a' ∧ a' ≤ a + 2 := by
  unfold spec_l1Cur_among.f
  obtain ⟨v, a', s', e, v0, v1, h2, h3⟩ := pick_ev h s (L.length : Int) h0 h1
  rw [e, Option.bind_some]
  dsimp only
  rw [if_pos v0, if_pos (by omega)]
  refine ⟨_, _, _, rfl, ?_, h2, h3⟩
  unfold rd
  rw [List.getD_eq_getElem?_getD, List.getElem?_eq_getElem (by omega)]
  exact List.getElem_mem _
end Go.Proofs.YthkdkgbcokpbaacGreatDoor.QFnNecklacesShared
/-! Once in so many times, as it is drawn. -/
namespace Go.Proofs.YthkdkgbcokpbaacGreatDoor.QFnNecklacesShared
open Go.RowKit Go.Proofs.YthkdkgbcokpbaacGreatDoorOwn Go.Proofs.YthkdkgbcokpbaacGreatDoor.PFnNecklacesShared Go.Proofs.YthkdkgbcokpbaacGreatDoorW.PrintWords Go.Proofs.YthkdkgbcokpbaacGreatDoorW.PrintLast Go.Proofs.YthkdkgbcokpbaacGreatDoorW.PrintMore
set_option linter.unusedVariables false
set_option linter.unusedSimpArgs false
set_option maxRecDepth 100000
theorem one_ev {l : List Int} (h : U8 l) {a : Int} (s n : Int) (h0 : 0 ≤ a) (h1 : a < 4611686018427387900) : ∃ b a' s', spec_l1Cur_one.f l a s n = some (b, a', s') ∧ a ≤ a' ∧ a' ≤ a + 2 := by
  obtain ⟨v, a', s', e, _, _, h2, h3⟩ := pick_ev h s n h0 h1
  exact ⟨v == 0, a', s', by unfold spec_l1Cur_one.f; rw [e]; rfl, h2, h3⟩
end Go.Proofs.YthkdkgbcokpbaacGreatDoor.QFnNecklacesShared
/-! Necklaces and cuts as they are drawn. -/
namespace Go.Proofs.YthkdkgbcokpbaacGreatDoor.QFnNecklacesShared
open Go.RowKit Go.Proofs.YthkdkgbcokpbaacGreatDoorOwn Go.Proofs.YthkdkgbcokpbaacGreatDoor.PFnNecklacesShared Go.Proofs.YthkdkgbcokpbaacGreatDoorW.PrintWords Go.Proofs.YthkdkgbcokpbaacGreatDoorW.PrintLast Go.Proofs.YthkdkgbcokpbaacGreatDoorW.PrintMore
set_option linter.unusedVariables false
set_option linter.unusedSimpArgs false
set_option maxRecDepth 100000
theorem bsize (x y : ByteArray) : (x ++ y).size = x.size + y.size := ByteArray.size_append
theorem esize (x : ByteArray) {i j : Nat} (h : i ≤ j) (hj : j ≤ x.size) : (x.extract i j).size = j - i := by
  rw [ByteArray.size_extract, Nat.min_eq_left hj]
/-- A bead is put in: one more. -/
theorem put_in {x y : ByteArray} {v w : Int} (hx : x.size ≤ 100) (hy : y.size = 4) (v0 : 0 ≤ v) (v1 : v ≤ (x.size : Int)) (w0 : 0 ≤ w) (w1 : w < 4) :
    (True → wrap64 (w + 1) = w + 1) ∧ (x.extract 0 (v : Int).toNat).size + (y.extract (w : Int).toNat ((w + 1) : Int).toNat).size ≤ 9223372036854775807 ∧
      ((x.extract 0 (v : Int).toNat) ++ (y.extract (w : Int).toNat ((w + 1) : Int).toNat)).size + (x.extract (v : Int).toNat x.size).size ≤ 9223372036854775807 ∧
      (((x.extract 0 (v : Int).toNat) ++ (y.extract (w : Int).toNat ((w + 1) : Int).toNat)) ++ (x.extract (v : Int).toNat x.size)).size = x.size + 1 := by
  have e1 := esize x (i := 0) (j := v.toNat) (by omega) (by omega)
  have e2 := esize y (i := w.toNat) (j := (w + 1).toNat) (by omega) (by omega)
  have e3 := esize x (i := v.toNat) (j := x.size) (by omega) (by omega)
  refine ⟨fun _ => wr (by omega) (by omega), by omega, ?_, ?_⟩
  · rw [bsize]; omega
  · rw [bsize, bsize]; omega
section
variable {l : List Int} (h : U8 l) (ev : Bool) (kk : Int) (hk : 1 ≤ kk) (hk4 : kk ≤ 4)
include h hk hk4
theorem sure_out : ∀ (d : Nat) (x : ByteArray) (a s : Int), x.size + 2 * d ≤ 90 → 0 ≤ a → a + 12 * (d : Int) ≤ 4611686018427379000 → ∃ r : ByteArray × Int × Int, Ev (fun f => spec_l1Cur_sureBeads.l0 f ev kk x (d : Int) l a s) r ∧ r.1.size ≤ 90 ∧ 0 ≤ r.2.1 ∧ r.2.1 ≤ a + 12 * (d : Int)
  | 0, x, a, s, hx, a0, a1 => ⟨(x, a, s), Ev.step (fun f => spec_l1Cur_sureBeads.l0.eq_2 ..) (ev_neg (by omega) (Ev.now _)), by dsimp only; omega, a0, by dsimp only; omega⟩
  | d + 1, x, a, s, hx, a0, a1 => by
    obtain ⟨w, a', s', e, w0, w1, b1, c1⟩ := pick_ev h s kk a0 (by omega)
    have ew : True → wrap64 (((d + 1 : Nat) : Int) - 1) = (d : Int) := fun _ => by rw [wr (by omega) (by omega)]; omega
    -- the draws of the rounds that follow are few
    have key : ∀ (d2 q : Nat) (x : ByteArray) (w a s : Int), q + d2 = 2 → x.size + d2 + 2 * d ≤ 90 → 0 ≤ w → w < kk → 0 ≤ a → a + 4 * (d2 : Int) + 12 * (d : Int) ≤ 4611686018427379000 →
        ∃ r : ByteArray × Int × Int, Ev (fun f => spec_l1Cur_sureBeads.l1 f ev kk x ((d + 1 : Nat) : Int) w (q : Int) l a s) r ∧ r.1.size ≤ 90 ∧ 0 ≤ r.2.1 ∧ r.2.1 ≤ a + 4 * (d2 : Int) + 12 * (d : Int) := by
      intro d2
      induction d2 with
      | zero =>
        intro q x w a s hq hx w0 w1 a0 a1
        obtain ⟨r, hr, h1, h2, h3⟩ := sure_out d x a s (by omega) a0 (by omega)
        refine ⟨r, Ev.step (fun f => spec_l1Cur_sureBeads.l1.eq_2 ..) (ev_neg (by omega) ?_), h1, h2, by omega⟩
        rw [ew trivial]
        exact hr
      | succ d2 ih =>
        intro q x w a s hq hx w0 w1 a0 a1
        have ez : True → wrap64 ((x.size : Int) + 1) = (x.size : Int) + 1 := fun _ => wr (by omega) (by omega)
        have eq1 : True → wrap64 ((q : Int) + 1) = ((q + 1 : Nat) : Int) := fun _ => by rw [wr (by omega) (by omega)]; omega
        cases hev : ev with
        | true =>
          obtain ⟨v, a', s', e, v0, v1, b1, c1⟩ := pick_ev h s ((x.size : Int) + 1) a0 (by omega)
          obtain ⟨g1, g2, g3, g4⟩ := put_in (x := x) (y := (⟨#[97, 98, 99, 100]⟩ : ByteArray)) (v := v) (w := w) (by omega) rfl v0 (by omega) w0 (by omega)
          obtain ⟨y, hy⟩ : ∃ y, y = (((x.extract 0 (v : Int).toNat) ++ ((⟨#[97, 98, 99, 100]⟩ : ByteArray).extract (w : Int).toNat ((w + 1) : Int).toNat)) ++ (x.extract (v : Int).toNat x.size)) := ⟨_, rfl⟩
          rw [← hy] at g4
          obtain ⟨r, hr, h1, h2, h3⟩ := ih (q + 1) y w a' s' (by omega) (by omega) w0 w1 (by omega) (by omega)
          rw [hev] at hr
          refine ⟨r, Ev.step (fun f => spec_l1Cur_sureBeads.l1.eq_2 ..) (ev_pos (by omega) (ev_pos rfl ?_)), h1, h2, by omega⟩
          rw [ez trivial]
          refine ev_bind0 e (ev_pos v0 (ev_pos (show v ≤ (x.size : Int) by omega) (ev_pos w0 ?_)))
          rw [g1 trivial]
          refine ev_pos (by omega) (ev_pos (by omega) (ev_pos g2 (ev_pos g3 ?_)))
          rw [eq1 trivial, ← hy]
          exact hr
        | false =>
          obtain ⟨w', a2, s2, e2, w0', w1', b2, c2⟩ := pick_ev h s kk a0 (by omega)
          obtain ⟨v, a', s', e, v0, v1, b1, c1⟩ := pick_ev h s2 ((x.size : Int) + 1) (show 0 ≤ a2 by omega) (by omega)
          obtain ⟨g1, g2, g3, g4⟩ := put_in (x := x) (y := (⟨#[97, 98, 99, 100]⟩ : ByteArray)) (v := v) (w := w') (by omega) rfl v0 (by omega) w0' (by omega)
          obtain ⟨y, hy⟩ : ∃ y, y = (((x.extract 0 (v : Int).toNat) ++ ((⟨#[97, 98, 99, 100]⟩ : ByteArray).extract (w' : Int).toNat ((w' + 1) : Int).toNat)) ++ (x.extract (v : Int).toNat x.size)) := ⟨_, rfl⟩
          rw [← hy] at g4
          obtain ⟨r, hr, h1, h2, h3⟩ := ih (q + 1) y w' a' s' (by omega) (by omega) w0' (by omega) (by omega) (by omega)
          rw [hev] at hr
          refine ⟨r, Ev.step (fun f => spec_l1Cur_sureBeads.l1.eq_2 ..) (ev_pos (by omega) (ev_neg (by decide) (ev_bind0 e2 ?_))), h1, h2, by omega⟩
          rw [ez trivial]
          refine ev_bind0 e (ev_pos v0 (ev_pos (show v ≤ (x.size : Int) by omega) (ev_pos w0' ?_)))
          dsimp only
          rw [g1 trivial]
          refine ev_pos (by omega) (ev_pos (by omega) (ev_pos g2 (ev_pos g3 ?_)))
          rw [eq1 trivial, ← hy]
          exact hr
    obtain ⟨r, hr, h1, h2, h3⟩ := key 2 0 x w a' s' rfl (by omega) w0 (by omega) (by omega) (by omega)
    exact ⟨r, Ev.step (fun f => spec_l1Cur_sureBeads.l0.eq_2 ..) (ev_pos (by omega) (ev_bind0 e hr)), h1, h2, by omega⟩
end
theorem sure_ev {l : List Int} (h : U8 l) (ev : Bool) (m : Nat) (hm : m ≤ 16) {a : Int} (s : Int) (a0 : 0 ≤ a) (a1 : a ≤ 4611686018427000000) : ∃ r : ByteArray × Int × Int, Ev (fun f => spec_l1Cur_sureBeads.f f l a s (m : Int) ev) r ∧ r.1.size ≤ 90 ∧ 0 ≤ r.2.1 ∧ r.2.1 ≤ a + 200 := by
  obtain ⟨v, b, t, e, v0, v1, b1, c1⟩ := pick_ev h s 4 a0 (by omega)
  have ek : True → wrap64 (1 + v) = 1 + v := fun _ => wr (by omega) (by omega)
  have et : Int.tdiv (m : Int) 2 = ((m / 2 : Nat) : Int) := by rw [Int.tdiv_eq_ediv_of_nonneg (by omega)]; omega
  have em : True → wrap64 ((wrap64 (Int.tdiv (m : Int) 2)) + 1) = ((m / 2 + 1 : Nat) : Int) := fun _ => by rw [et, wr (x := ((m / 2 : Nat) : Int)) (by omega) (by omega), wr (by omega) (by omega)]; omega
  obtain ⟨v2, b2, t2, e2, w0, w1, b3, c3⟩ := pick_ev h t ((m / 2 + 1 : Nat) : Int) (show 0 ≤ b by omega) (by omega)
  obtain ⟨d, ed⟩ := Int.eq_ofNat_of_zero_le w0
  subst ed
  obtain ⟨r, hr, h1, h2, h3⟩ := sure_out h ev (1 + v) (by omega) (by omega) d (⟨#[]⟩ : ByteArray) b2 t2 (by have : (⟨#[]⟩ : ByteArray).size = 0 := rfl; omega) (by omega) (by omega)
  refine ⟨r, ev_bind0 e ?_, h1, h2, by omega⟩
  rw [em trivial]
  refine ev_bind0 e2 ?_
  dsimp only
  rw [ek trivial]
  exact hr
theorem of_ev {l : List Int} (h : U8 l) {a : Int} (s : Int) (L : List ByteArray) (hL : 0 < L.length) (h0 : 0 ≤ a) (h1 : a < 4611686018427387900) : ∃ v a' s', spec_l1Cur_of.f l a s L = some (v, a', s') ∧ v ∈ L ∧ a ≤ a' ∧ a' ≤ a + 2 := by
  unfold spec_l1Cur_of.f
  obtain ⟨v, a', s', e, v0, v1, h2, h3⟩ := pick_ev h s (L.length : Int) h0 h1
  rw [e, Option.bind_some]
  dsimp only
  rw [if_pos v0, if_pos (by omega)]
  refine ⟨_, _, _, rfl, ?_, h2, h3⟩
  unfold rdOf
  rw [List.getD_eq_getElem?_getD, List.getElem?_eq_getElem (by omega)]
  exact List.getElem_mem _
theorem more_loop {l : List Int} (h : U8 l) : ∀ (d : Nat) (x : ByteArray) (a s : Int), x.size + d = 17 ∨ (17 ≤ x.size ∧ d = 0) → x.size ≤ 95 → 0 ≤ a → a + 4 * (d : Int) ≤ 4611686018427380000 → ∃ r : ByteArray × Int × Int, Ev (fun f => spec_l1Cur_beads.l0 f x l a s) r ∧ r.1.size ≤ 95 ∧ 0 ≤ r.2.1 ∧ r.2.1 ≤ a + 4 * (d : Int) + 4
  | d, x, a, s, hd, hx, a0, a1 => by
    obtain ⟨v, a', s', e, v0, v1, b1, c1⟩ := pick_ev h s 2 a0 (by omega)
    have ew : True → wrap64 (16 + v) = 16 + v := fun _ => wr (by omega) (by omega)
    by_cases hc : (x.size : Int) < 16 + v
    · match d, hd with
      | 0, hd => omega
      | d + 1, hd =>
        have e1 : (x ++ (⟨#[97]⟩ : ByteArray)).size = x.size + 1 := by rw [bsize]; rfl
        obtain ⟨r, hr, h1, h2, h3⟩ := more_loop h d (x ++ (⟨#[97]⟩ : ByteArray)) a' s' (by omega) (by omega) (by omega) (by omega)
        refine ⟨r, Ev.step (fun f => spec_l1Cur_beads.l0.eq_2 ..) (ev_bind0 e ?_), h1, h2, by omega⟩
        dsimp only
        rw [ew trivial]
        exact ev_pos hc (ev_pos (by omega) hr)
    · refine ⟨(x, a', s'), Ev.step (fun f => spec_l1Cur_beads.l0.eq_2 ..) (ev_bind0 e ?_), hx, by dsimp only; omega, by dsimp only; omega⟩
      dsimp only
      rw [ew trivial]
      exact ev_neg hc (Ev.now _)
theorem beads_ev {l : List Int} (h : U8 l) (m : Nat) (hm : m ≤ 16) : ∃ r : ByteArray × Int × Int, Ev (fun f => spec_l1Cur_beads.f f l 0 0 (m : Int)) r ∧ r.1.size ≤ 95 ∧ 0 ≤ r.2.1 ∧ r.2.1 ≤ 1000 := by
  obtain ⟨b, a1, s1, e1, b1, c1⟩ := one_ev h 0 5 (Int.le_refl 0) (by decide)
  obtain ⟨⟨x, a2, s2⟩, h2, hx, b2, c2⟩ := sure_ev h (!b) m hm s1 (show 0 ≤ a1 by omega) (by omega)
  dsimp only at hx b2 c2
  obtain ⟨v, a3, s3, e3, v0, v1, b3, c3⟩ := pick_ev h s2 20 b2 (by omega)
  have hr : ∀ r : ByteArray × Int × Int, Ev (fun f => if v = 0 then ((spec_l1Cur_of.f l a3 s3 (([(⟨#[101]⟩ : ByteArray), (⟨#[65]⟩ : ByteArray), (⟨#[48]⟩ : ByteArray), (⟨#[97]⟩ : ByteArray)] : List ByteArray))).bind fun bt145 => (if x.size + bt145.1.size ≤ 9223372036854775807 then (some (x ++ bt145.1, bt145.2.1, bt145.2.2)) else (none))) else (if v = 1 then (spec_l1Cur_beads.l0 f x l a3 s3) else (some (x, a3, s3)))) r → Ev (fun f => spec_l1Cur_beads.f f l 0 0 (m : Int)) r := fun r hr => ev_bind0 e1 (Ev.bind h2 (ev_bind0 e3 hr))
  by_cases h0 : v = 0
  · obtain ⟨y, a4, s4, e4, hy, b4, c4⟩ := of_ev h s3 [(⟨#[101]⟩ : ByteArray), (⟨#[65]⟩ : ByteArray), (⟨#[48]⟩ : ByteArray), (⟨#[97]⟩ : ByteArray)] (by decide) (show 0 ≤ a3 by omega) (by omega)
    have ys : y.size = 1 := by
      simp only [List.mem_cons, List.not_mem_nil, or_false] at hy
      rcases hy with e | e | e | e <;> rw [e] <;> rfl
    exact ⟨_, hr _ (ev_pos h0 (ev_bind0 e4 (ev_pos (by dsimp only; omega) (Ev.now _)))), by dsimp only; rw [bsize]; omega, by dsimp only; omega, by dsimp only; omega⟩
  · by_cases h1 : v = 1
    · obtain ⟨r, hr1, g1, g2, g3⟩ := more_loop h (17 - x.size) x a3 s3 (by omega) (by omega) (by omega) (by omega)
      exact ⟨r, hr _ (ev_neg h0 (ev_pos h1 hr1)), g1, g2, by omega⟩
    · exact ⟨_, hr _ (ev_neg h0 (ev_neg h1 (Ev.now _))), by dsimp only; omega, by dsimp only; omega, by dsimp only; omega⟩
end Go.Proofs.YthkdkgbcokpbaacGreatDoor.QFnNecklacesShared
/-! Necklaces: which texts are necklaces; the program's test and the reference's. -/
namespace Go.Proofs.YthkdkgbcokpbaacGreatDoor.QFnNecklacesShared
open Go.RowKit Go.Proofs.YthkdkgbcokpbaacGreatDoor.PFnNecklacesShared Go.Proofs.YthkdkgbcokpbaacGreatDoorW.PrintWords Go.Proofs.YthkdkgbcokpbaacGreatDoorW.PrintLast Go.Proofs.YthkdkgbcokpbaacGreatDoorW.PrintMore
set_option linter.unusedVariables false
set_option linter.unusedSimpArgs false
def isBead (b : UInt8) : Bool := decide (97 ≤ b.toNat ∧ b.toNat ≤ 100)
def beads (s : ByteArray) : Bool := s.data.toList.all isBead
/-- The texts that are necklaces. -/
def neckl (s : ByteArray) : Bool := decide (s.size ≤ 16) && beads s
theorem size_list (s : ByteArray) : s.data.toList.length = s.size := Array.length_toList
theorem bt_get {s : ByteArray} {i : Nat} {b : UInt8} (h : s.data.toList[i]? = some b) : bt s (i : Int) = (b.toNat : Int) := by
  have hl := (List.getElem?_eq_some_iff.1 h).1
  have hs : i < s.size := by rw [← size_list]; exact hl
  unfold bt
  have e : ((i : Int).toNat) = i := by omega
  rw [dif_pos (by rw [e]; exact hs)]
  have : s[((i : Int).toNat)]'(by rw [e]; exact hs) = b := by
    have h2 := (List.getElem?_eq_some_iff.1 h).2
    simp only [e]
    rw [← h2]
    rfl
  rw [this]
theorem get_lt {s : ByteArray} {i : Nat} (h : i < s.size) : ∃ b, s.data.toList[i]? = some b := ⟨_, List.getElem?_eq_getElem (by rw [size_list]; exact h)⟩
theorem all_drop {p : UInt8 → Bool} {l : List UInt8} {i : Nat} {b : UInt8} (h : l[i]? = some b) : (l.drop i).all p = (p b && (l.drop (i + 1)).all p) := by
  have hl := (List.getElem?_eq_some_iff.1 h).1
  rw [List.drop_eq_getElem_cons hl, List.all_cons, (List.getElem?_eq_some_iff.1 h).2]
theorem good_loop (s : ByteArray) (hs : s.size ≤ 16) : ∀ d i : Nat, i + d = s.size → Ev (fun k => spec_nlGood.l0 k s (i : Int)) ((s.data.toList.drop i).all isBead)
  | 0, i, h => by
    refine Ev.step (fun f => spec_nlGood.l0.eq_2 ..) (ev_neg (by omega) (ev_eq (Ev.now _) ?_))
    rw [List.drop_eq_nil_of_le (by rw [size_list]; omega)]
    rfl
  | d + 1, i, h => by
    obtain ⟨b, hb⟩ := get_lt (s := s) (i := i) (by omega)
    have hl := b.toNat_lt
    refine Ev.step (fun f => spec_nlGood.l0.eq_2 ..) (ev_pos (by omega) (ev_pos (by omega) ?_))
    rw [bt_get hb, all_drop hb]
    by_cases h1 : (b.toNat : Int) < 97
    · refine ev_pos h1 (ev_eq (Ev.now _) ?_)
      rw [show isBead b = false by unfold isBead; exact decide_eq_false (by omega)]; rfl
    · refine ev_neg h1 ?_
      by_cases h2 : ((b.toNat : Int) - 97) % 256 ≥ 4
      · refine ev_pos h2 (ev_eq (Ev.now _) ?_)
        rw [show isBead b = false by unfold isBead; exact decide_eq_false (by omega)]; rfl
      · refine ev_neg h2 ?_
        rw [show isBead b = true by unfold isBead; exact decide_eq_true (by omega), wr (by omega) (by omega), Bool.true_and]
        exact good_loop s hs d (i + 1) (by omega)
theorem nlGood_ev (s : ByteArray) : Ev (fun k => spec_nlGood.f k s) (neckl s) := by
  unfold spec_nlGood.f neckl
  by_cases h : s.size ≤ 16
  · refine ev_neg (by omega) ?_
    rw [decide_eq_true h, Bool.true_and]
    exact good_loop s h s.size 0 (by omega)
  · refine ev_pos (by omega) ?_
    rw [decide_eq_false h, Bool.false_and]
    exact Ev.now _
theorem mem_dropWhile {p : UInt8 → Bool} {x : UInt8} (hx : p x = false) : ∀ {l : List UInt8}, x ∈ l → x ∈ l.dropWhile p
  | [], h => h
  | y :: l, h => by
    rw [List.dropWhile_cons]
    split
    · rename_i hy
      refine mem_dropWhile hx ?_
      rcases List.mem_cons.1 h with rfl | h
      · rw [hx] at hy; cases hy
      · exact h
    · exact h
theorem dropWhile_all {p : UInt8 → Bool} : ∀ {l : List UInt8}, (∀ x ∈ l, p x = true) → l.dropWhile p = []
  | [], _ => rfl
  | y :: l, h => by rw [List.dropWhile_cons, if_pos (h y (by simp))]; exact dropWhile_all (fun x hx => h x (by simp [hx]))
theorem trimS_nil (l cs : List UInt8) : (Go.Lib.trimS l cs == []) = l.all (cs.contains ·) := by
  cases h : l.all (cs.contains ·) with
  | true =>
    have h' := List.all_eq_true.1 h
    have e : Go.Lib.trimRightS l cs = [] := by
      unfold Go.Lib.trimRightS
      rw [dropWhile_all (fun x hx => h' x (by simpa using hx))]; rfl
    unfold Go.Lib.trimS
    rw [e]; rfl
  | false =>
    obtain ⟨x, hx, hp⟩ := List.all_eq_false.1 h
    have hp : cs.contains x = false := by simpa using hp
    have hr : x ∈ Go.Lib.trimRightS l cs := by
      unfold Go.Lib.trimRightS
      exact List.mem_reverse.2 (mem_dropWhile hp (List.mem_reverse.2 hx))
    have ht : x ∈ Go.Lib.trimS l cs := mem_dropWhile hp hr
    cases e : Go.Lib.trimS l cs with
    | nil => rw [e] at ht; cases ht
    | cons a b => rfl
theorem abcd (b : UInt8) : ([97, 98, 99, 100] : List UInt8).contains b = isBead b := by
  unfold isBead
  have h : b.toNat < 256 := b.toNat_lt
  by_cases hb : 97 ≤ b.toNat ∧ b.toNat ≤ 100
  · rw [decide_eq_true hb]
    have : b = 97 ∨ b = 98 ∨ b = 99 ∨ b = 100 := by
      have : b.toNat = 97 ∨ b.toNat = 98 ∨ b.toNat = 99 ∨ b.toNat = 100 := by omega
      rcases this with e | e | e | e
      · exact .inl (UInt8.toNat_inj.1 e)
      · exact .inr (.inl (UInt8.toNat_inj.1 e))
      · exact .inr (.inr (.inl (UInt8.toNat_inj.1 e)))
      · exact .inr (.inr (.inr (UInt8.toNat_inj.1 e)))
    rcases this with rfl | rfl | rfl | rfl <;> rfl
  · rw [decide_eq_false hb]
    cases e : ([97, 98, 99, 100] : List UInt8).contains b with
    | false => rfl
    | true =>
      have := List.contains_iff_mem.1 e
      simp at this
      rcases this with rfl | rfl | rfl | rfl <;> exact absurd (by decide) hb
theorem isNecklace_ev (s : ByteArray) : impl_IsNecklace.f s = some (neckl s) := by
  unfold impl_IsNecklace.f neckl
  by_cases h : s.size ≤ 16
  · rw [if_pos (by omega), decide_eq_true h, Bool.true_and]
    unfold strings_Trim.f
    rw [if_pos (by rw [decide_eq_true (show s.size ≤ 9223372036854775807 by omega)]; decide +kernel), Option.bind_some]
    have e : (⟨(Go.Lib.trimS s.data.toList (⟨#[97, 98, 99, 100]⟩ : ByteArray).data.toList).toArray⟩ : ByteArray).toList = Go.Lib.trimS s.data.toList [97, 98, 99, 100] := by
      rw [ByteArray.toList_eq]
    rw [e, trimS_nil]
    unfold beads
    exact congrArg some (congrArg (fun p => s.data.toList.all p) (funext abcd))
  · rw [if_neg (by omega), decide_eq_false h, Bool.false_and]
end Go.Proofs.YthkdkgbcokpbaacGreatDoor.QFnNecklacesShared
/-! Necklaces: the numbers of beads of the four kinds. -/
namespace Go.Proofs.YthkdkgbcokpbaacGreatDoor.QFnNecklacesShared
open Go.RowKit Go.Proofs.YthkdkgbcokpbaacGreatDoor.PFnNecklacesShared Go.Proofs.YthkdkgbcokpbaacGreatDoorW.PrintWords Go.Proofs.YthkdkgbcokpbaacGreatDoorW.PrintLast Go.Proofs.YthkdkgbcokpbaacGreatDoorW.PrintMore
set_option linter.unusedVariables false
set_option linter.unusedSimpArgs false
set_option maxRecDepth 100000
def cn (v : Nat) (l : List UInt8) : Int := ((l.countP fun b => decide (b.toNat = v) : Nat) : Int)
/-- The numbers of the four kinds. -/
def cntL (l : List UInt8) : List Int := [cn 97 l, cn 98 l, cn 99 l, cn 100 l]
theorem cn_le (v : Nat) (l : List UInt8) : 0 ≤ cn v l ∧ cn v l ≤ l.length := by
  unfold cn
  have := List.countP_le_length (p := fun b : UInt8 => decide (b.toNat = v)) (l := l)
  omega
theorem cn_snoc (v : Nat) (l : List UInt8) (b : UInt8) : cn v (l ++ [b]) = cn v l + (if b.toNat = v then 1 else 0) := by
  unfold cn
  rw [List.countP_append, List.countP_singleton]
  by_cases h : b.toNat = v <;> simp [h]
theorem kind_cases {b : UInt8} (hb : isBead b = true) : b.toNat = 97 ∨ b.toNat = 98 ∨ b.toNat = 99 ∨ b.toNat = 100 := by
  unfold isBead at hb
  have := of_decide_eq_true hb
  omega
theorem cnt_step (l : List UInt8) (b : UInt8) (hb : isBead b = true) (hl : l.length ≤ 1000) :
    (cntL l).set ((((b.toNat : Int) - 97) % 256 : Int).toNat) (wrap64 (rd (cntL l) (((b.toNat : Int) - 97) % 256) + 1)) = cntL (l ++ [b]) := by
  have h1 := cn_le 97 l
  have h2 := cn_le 98 l
  have h3 := cn_le 99 l
  have h4 := cn_le 100 l
  unfold cntL
  rw [cn_snoc, cn_snoc, cn_snoc, cn_snoc]
  rcases kind_cases hb with h | h | h | h
  · have e : (((b.toNat : Int) - 97) % 256) = 0 := by omega
    rw [e, show rd [cn 97 l, cn 98 l, cn 99 l, cn 100 l] 0 = cn 97 l from rfl, wr (by omega) (by omega), h]
    simp
  · have e : (((b.toNat : Int) - 97) % 256) = 1 := by omega
    rw [e, show rd [cn 97 l, cn 98 l, cn 99 l, cn 100 l] 1 = cn 98 l from rfl, wr (by omega) (by omega), h]
    simp
  · have e : (((b.toNat : Int) - 97) % 256) = 2 := by omega
    rw [e, show rd [cn 97 l, cn 98 l, cn 99 l, cn 100 l] 2 = cn 99 l from rfl, wr (by omega) (by omega), h]
    simp
  · have e : (((b.toNat : Int) - 97) % 256) = 3 := by omega
    rw [e, show rd [cn 97 l, cn 98 l, cn 99 l, cn 100 l] 3 = cn 100 l from rfl, wr (by omega) (by omega), h]
    simp
theorem cntL_len (l : List UInt8) : (cntL l).length = 4 := rfl
theorem cntL_le (l : List UInt8) (i : Nat) : 0 ≤ rd (cntL l) i ∧ rd (cntL l) i ≤ l.length := by
  have h1 := cn_le 97 l
  have h2 := cn_le 98 l
  have h3 := cn_le 99 l
  have h4 := cn_le 100 l
  rw [rd_nat]
  match i with
  | 0 => exact h1
  | 1 => exact h2
  | 2 => exact h3
  | 3 => exact h4
  | n + 4 => simp [cntL]
theorem kind_range {b : UInt8} (hb : isBead b = true) : 0 ≤ ((b.toNat : Int) - 97) % 256 ∧ ((b.toNat : Int) - 97) % 256 < 4 := by
  rcases kind_cases hb with h | h | h | h <;> omega
theorem bead_at {s : ByteArray} (h : beads s = true) {i : Nat} {b : UInt8} (hb : s.data.toList[i]? = some b) : isBead b = true :=
  List.all_eq_true.1 h b (List.mem_of_getElem? hb)
theorem take_snoc {l : List UInt8} {i : Nat} {b : UInt8} (h : l[i]? = some b) : l.take i ++ [b] = l.take (i + 1) := by
  rw [List.take_add_one, h]; rfl
theorem neckl_size {s : ByteArray} (h : neckl s = true) : s.size ≤ 16 := of_decide_eq_true (Bool.and_eq_true_iff.1 h).1
theorem neckl_beads {s : ByteArray} (h : neckl s = true) : beads s = true := (Bool.and_eq_true_iff.1 h).2
theorem cntL_nil : (List.replicate 4 0 : List Int) = cntL [] := rfl
end Go.Proofs.YthkdkgbcokpbaacGreatDoor.QFnNecklacesShared
/-! Necklaces: the reference's counts. -/
namespace Go.Proofs.YthkdkgbcokpbaacGreatDoor.QFnNecklacesShared
open Go.RowKit Go.Proofs.YthkdkgbcokpbaacGreatDoor.PFnNecklacesShared Go.Proofs.YthkdkgbcokpbaacGreatDoorW.PrintWords Go.Proofs.YthkdkgbcokpbaacGreatDoorW.PrintLast Go.Proofs.YthkdkgbcokpbaacGreatDoorW.PrintMore
set_option linter.unusedVariables false
set_option linter.unusedSimpArgs false
set_option maxRecDepth 100000
theorem nlCounts_loop (s : ByteArray) (hb : beads s = true) (hs : s.size ≤ 1000) : ∀ d i : Nat, i + d = s.size → Ev (fun k => spec_nlCounts.l0 k s (cntL (s.data.toList.take i)) (i : Int)) (cntL s.data.toList)
  | 0, i, h => by
    refine Ev.step (fun f => spec_nlCounts.l0.eq_2 ..) (ev_neg (by omega) (ev_eq (Ev.now _) ?_))
    rw [List.take_of_length_le (by rw [size_list]; omega)]
  | d + 1, i, h => by
    obtain ⟨b, hg⟩ := get_lt (s := s) (i := i) (by omega)
    have hk := kind_range (bead_at hb hg)
    refine Ev.step (fun f => spec_nlCounts.l0.eq_2 ..) (ev_pos (by omega) (ev_pos (by omega) ?_))
    rw [bt_get hg]
    refine ev_pos hk.1 (ev_pos (by rw [cntL_len]; exact hk.2) ?_)
    rw [cnt_step _ _ (bead_at hb hg) (by rw [List.length_take]; omega), take_snoc hg, wr (by omega) (by omega)]
    exact nlCounts_loop s hb hs d (i + 1) (by omega)
theorem nlCounts_ev (s : ByteArray) (hb : beads s = true) (hs : s.size ≤ 1000) : Ev (fun k => spec_nlCounts.f k s) (cntL s.data.toList) :=
  ev_pos (by decide) (nlCounts_loop s hb hs s.size 0 (by omega))
end Go.Proofs.YthkdkgbcokpbaacGreatDoor.QFnNecklacesShared
/-! Necklaces: the program's counts. -/
namespace Go.Proofs.YthkdkgbcokpbaacGreatDoor.QFnNecklacesShared
open Go.RowKit Go.Proofs.YthkdkgbcokpbaacGreatDoor.PFnNecklacesShared Go.Proofs.YthkdkgbcokpbaacGreatDoorW.PrintWords Go.Proofs.YthkdkgbcokpbaacGreatDoorW.PrintLast Go.Proofs.YthkdkgbcokpbaacGreatDoorW.PrintMore
set_option linter.unusedVariables false
set_option linter.unusedSimpArgs false
set_option maxRecDepth 100000
theorem counts_loop (s : ByteArray) (hb : beads s = true) (hs : s.size ≤ 1000) : ∀ d i : Nat, i + d = s.size → Ev (fun k => impl_counts.l0 k s (cntL (s.data.toList.take i)) (s.size : Int) (i : Int)) (cntL s.data.toList)
  | 0, i, h => by
    refine Ev.step (fun f => impl_counts.l0.eq_2 ..) (ev_neg (by omega) (ev_eq (Ev.now _) ?_))
    rw [List.take_of_length_le (by rw [size_list]; omega)]
  | d + 1, i, h => by
    obtain ⟨b, hg⟩ := get_lt (s := s) (i := i) (by omega)
    have hk := kind_range (bead_at hb hg)
    refine Ev.step (fun f => impl_counts.l0.eq_2 ..) (ev_pos (by omega) (ev_pos (by omega) (ev_pos (by omega) ?_)))
    rw [bt_get hg]
    refine ev_pos hk.1 (ev_pos (by rw [cntL_len]; exact hk.2) ?_)
    rw [cnt_step _ _ (bead_at hb hg) (by rw [List.length_take]; omega), take_snoc hg, wr (by omega) (by omega)]
    exact counts_loop s hb hs d (i + 1) (by omega)
theorem counts_ev (s : ByteArray) (hb : beads s = true) (hs : s.size ≤ 1000) : Ev (fun k => impl_counts.f k s) (cntL s.data.toList) :=
  ev_pos (by decide) (counts_loop s hb hs s.size 0 (by omega))
end Go.Proofs.YthkdkgbcokpbaacGreatDoor.QFnNecklacesShared
/-! Necklaces: how many kinds. -/
namespace Go.Proofs.YthkdkgbcokpbaacGreatDoor.QFnNecklacesShared
open Go.RowKit Go.Proofs.YthkdkgbcokpbaacGreatDoor.PFnNecklacesShared Go.Proofs.YthkdkgbcokpbaacGreatDoorW.PrintWords Go.Proofs.YthkdkgbcokpbaacGreatDoorW.PrintLast Go.Proofs.YthkdkgbcokpbaacGreatDoorW.PrintMore
set_option linter.unusedVariables false
set_option linter.unusedSimpArgs false
set_option maxRecDepth 100000
/-- How many of some numbers are above 0. -/
def kn (l : List Int) : Int := ((l.countP fun x => decide (0 < x) : Nat) : Int)
theorem kn_le (l : List Int) : 0 ≤ kn l ∧ kn l ≤ l.length := by
  unfold kn
  have := List.countP_le_length (p := fun x : Int => decide (0 < x)) (l := l)
  omega
theorem kn_snoc (l : List Int) (x : Int) : kn (l ++ [x]) = kn l + (if x > 0 then 1 else 0) := by
  unfold kn
  rw [List.countP_append, List.countP_singleton]
  by_cases h : 0 < x <;> simp [h]
theorem take_snocI {l : List Int} {i : Nat} (h : i < l.length) : l.take i ++ [rd l (i : Int)] = l.take (i + 1) := by
  rw [List.take_add_one, rd_nat, List.getD_eq_getElem?_getD, List.getElem?_eq_getElem h]; rfl
theorem nlKinds_loop (l : List Int) (hs : l.length ≤ 1000) : ∀ d i : Nat, i + d = l.length → Ev (fun k => spec_nlKinds.l0 k (kn (l.take i)) l (l.length : Int) (i : Int)) (kn l)
  | 0, i, h => by
    refine Ev.step (fun f => spec_nlKinds.l0.eq_2 ..) (ev_neg (by omega) (ev_eq (Ev.now _) ?_))
    rw [List.take_of_length_le (by omega)]
  | d + 1, i, h => by
    have hn := kn_snoc (l.take i) (rd l (i : Int))
    rw [take_snocI (by omega)] at hn
    have hk := kn_le (l.take i)
    have hlt : (l.take i).length ≤ 1000 := by rw [List.length_take]; omega
    refine Ev.step (fun f => spec_nlKinds.l0.eq_2 ..) (ev_pos (by omega) (ev_pos (by omega) (ev_pos (by omega) ?_)))
    rw [wr (show -9223372036854775808 ≤ (i : Int) + 1 by omega) (by omega)]
    have ih := nlKinds_loop l hs d (i + 1) (by omega)
    by_cases hc : rd l (i : Int) > 0
    · rw [if_pos hc] at hn
      refine ev_pos hc ?_
      rw [wr (by omega) (by omega), ← hn]
      exact ih
    · rw [if_neg hc] at hn
      refine ev_neg hc ?_
      rw [hn, Int.add_zero] at ih
      exact ih
theorem nlKinds_ev (s : ByteArray) (hb : beads s = true) (hs : s.size ≤ 1000) : Ev (fun k => spec_nlKinds.f k s) (kn (cntL s.data.toList)) := by
  refine Ev.bind (nlCounts_ev s hb hs) ?_
  exact nlKinds_loop (cntL s.data.toList) (by rw [cntL_len]; omega) 4 0 (by rw [cntL_len])
theorem kn_filter (l : List Int) : ((l.filter fun x => !decide (0 < x)).length : Int) = (l.length : Int) - kn l := by
  unfold kn
  induction l with
  | nil => rfl
  | cons x l ih =>
    rw [List.countP_cons, List.filter_cons]
    by_cases h : 0 < x <;> simp [h] <;> omega
theorem kinds_ev (s : ByteArray) (hb : beads s = true) (hs : s.size ≤ 1000) : Ev (fun k => impl_kinds.f k s) (kn (cntL s.data.toList)) := by
  refine Ev.bind (counts_ev s hb hs) (ev_pos (by rw [cntL_len]; omega) (ev_eq (Ev.now _) ?_))
  have hk := kn_le (cntL s.data.toList)
  rw [kn_filter, cntL_len] at *
  rw [wr (by omega) (by omega)]
  omega
end Go.Proofs.YthkdkgbcokpbaacGreatDoor.QFnNecklacesShared
/-! Necklaces: the signs of cuts: what both programs' loops tell. -/
namespace Go.Proofs.YthkdkgbcokpbaacGreatDoor.QFnNecklacesShared
open Go.RowKit Go.Proofs.YthkdkgbcokpbaacGreatDoor.PFnNecklacesShared Go.Proofs.YthkdkgbcokpbaacGreatDoorW.PrintWords Go.Proofs.YthkdkgbcokpbaacGreatDoorW.PrintLast Go.Proofs.YthkdkgbcokpbaacGreatDoorW.PrintMore
set_option linter.unusedVariables false
set_option linter.unusedSimpArgs false
set_option maxRecDepth 100000
/-- Is x among d numbers from the place i on? -/
def among (l : List Int) (x : Int) : Nat → Nat → Bool
  | 0, _ => false
  | d + 1, i => if rd l (i : Int) = x then true else among l x d (i + 1)
theorem has_loop (l : List Int) (hl : l.length ≤ 1048576) (x : Int) : ∀ d i : Nat, i + d = l.length → Ev (fun k => spec_l1Has.l0 k x l (l.length : Int) (i : Int)) (among l x d i)
  | 0, i, h => Ev.step (fun f => spec_l1Has.l0.eq_2 ..) (ev_neg (by omega) (Ev.now _))
  | d + 1, i, h => by
    refine Ev.step (fun f => spec_l1Has.l0.eq_2 ..) (ev_pos (by omega) (ev_pos (by omega) (ev_pos (by omega) ?_)))
    unfold among
    by_cases hc : rd l (i : Int) = x
    · rw [if_pos hc]; exact ev_pos hc (Ev.now _)
    · rw [if_neg hc, wr (by omega) (by omega)]; exact ev_neg hc (has_loop l hl x d (i + 1) (by omega))
theorem index_loop (l : List Int) (hl : l.length ≤ 1048576) (x : Int) : ∀ d i : Nat, i + d = l.length → ∃ r : Int, Ev (fun k => slices_Index_int_int.l0 k l x (l.length : Int) (i : Int)) r ∧ decide (r ≥ 0) = among l x d i
  | 0, i, h => ⟨-1, Ev.step (fun f => slices_Index_int_int.l0.eq_2 ..) (ev_neg (by omega) (Ev.now _)), rfl⟩
  | d + 1, i, h => by
    by_cases hc : rd l (i : Int) = x
    · refine ⟨i, Ev.step (fun f => slices_Index_int_int.l0.eq_2 ..) (ev_pos (by omega) (ev_pos (by omega) (ev_pos (by omega) (ev_pos hc.symm (Ev.now _))))), ?_⟩
      unfold among
      rw [if_pos hc]
      exact decide_eq_true (by omega)
    · obtain ⟨r, h1, h2⟩ := index_loop l hl x d (i + 1) (by omega)
      refine ⟨r, Ev.step (fun f => slices_Index_int_int.l0.eq_2 ..) (ev_pos (by omega) (ev_pos (by omega) (ev_pos (by omega) (ev_neg (fun z => hc z.symm) ?_)))), ?_⟩
      · rw [wr (by omega) (by omega)]; exact h1
      · unfold among
        rw [if_neg hc, h2]
theorem has_ev (l : List Int) (hl : l.length ≤ 1048576) (x : Int) : Ev (fun k => spec_l1Has.f k l x) (among l x l.length 0) := has_loop l hl x l.length 0 (by omega)
theorem contains_ev (l : List Int) (hl : l.length ≤ 1048576) (x : Int) : Ev (fun k => slices_Contains_int_int.f k l x) (among l x l.length 0) := by
  obtain ⟨r, h1, h2⟩ := index_loop l hl x l.length 0 (by omega)
  refine Ev.bind h1 (ev_eq (Ev.now _) h2)
/-- The signs of the beads from the place i on. -/
def signsFn (l : List Int) : Nat → Nat → Int → List Int
  | 0, _, _ => []
  | d + 1, i, sg => if among l (i : Int) l.length 0 = true then -sg :: signsFn l d (i + 1) (-sg) else sg :: signsFn l d (i + 1) sg
theorem signsFn_len (l : List Int) : ∀ d i sg, (signsFn l d i sg).length = d
  | 0, _, _ => rfl
  | d + 1, i, sg => by unfold signsFn; split <;> simp [signsFn_len l d]
theorem signsFn_unit (l : List Int) : ∀ d i sg, (sg = 1 ∨ sg = -1) → ∀ x ∈ signsFn l d i sg, x = 1 ∨ x = -1
  | 0, _, _, _, x, hx => by cases hx
  | d + 1, i, sg, h, x, hx => by
    unfold signsFn at hx
    split at hx
    · rcases List.mem_cons.1 hx with rfl | hx
      · omega
      · exact signsFn_unit l d (i + 1) (-sg) (by omega) x hx
    · rcases List.mem_cons.1 hx with rfl | hx
      · exact h
      · exact signsFn_unit l d (i + 1) sg h x hx
theorem nlSigns_loop (s : ByteArray) (hs : s.size ≤ 16) (l : List Int) (hl : l.length ≤ 1048576) : ∀ (d i : Nat) (sg : Int) (out : List Int), (sg = 1 ∨ sg = -1) → i + d = s.size → out.length = i →
    Ev (fun k => spec_nlSigns.l0 k s l out sg (i : Int)) (out ++ signsFn l d i sg)
  | 0, i, sg, out, hsg, h, ho => Ev.step (fun f => spec_nlSigns.l0.eq_2 ..) (ev_neg (by omega) (ev_eq (Ev.now _) (List.append_nil _).symm))
  | d + 1, i, sg, out, hsg, h, ho => by
    refine Ev.step (fun f => spec_nlSigns.l0.eq_2 ..) (ev_pos (by omega) (Ev.bind (has_ev l hl _) ?_))
    unfold signsFn
    by_cases hc : among l (i : Int) l.length 0 = true
    · rw [if_pos hc, wr (show -9223372036854775808 ≤ -sg by omega) (by omega), wr (show -9223372036854775808 ≤ (i : Int) + 1 by omega) (by omega)]
      refine ev_pos hc (ev_pos (by omega) ?_)
      have := nlSigns_loop s hs l hl d (i + 1) (-sg) (out ++ [-sg]) (by omega) (by omega) (by simp [ho])
      rw [List.append_assoc] at this
      exact this
    · rw [if_neg hc, wr (show -9223372036854775808 ≤ (i : Int) + 1 by omega) (by omega)]
      refine ev_neg hc (ev_pos (by omega) ?_)
      have := nlSigns_loop s hs l hl d (i + 1) sg (out ++ [sg]) hsg (by omega) (by simp [ho])
      rw [List.append_assoc] at this
      exact this
theorem signs_loop (n : Nat) (hs : n ≤ 16) (l : List Int) (hl : l.length ≤ 1048576) : ∀ (d i : Nat) (sg : Int) (out : List Int), (sg = 1 ∨ sg = -1) → i + d = n → out.length = i →
    Ev (fun k => impl_signs.l0 k l out sg (n : Int) (i : Int)) (out ++ signsFn l d i sg)
  | 0, i, sg, out, hsg, h, ho => Ev.step (fun f => impl_signs.l0.eq_2 ..) (ev_neg (by omega) (ev_eq (Ev.now _) (List.append_nil _).symm))
  | d + 1, i, sg, out, hsg, h, ho => by
    refine Ev.step (fun f => impl_signs.l0.eq_2 ..) (ev_pos (by omega) (Ev.bind (contains_ev l hl _) ?_))
    unfold signsFn
    by_cases hc : among l (i : Int) l.length 0 = true
    · rw [if_pos hc, wr (show -9223372036854775808 ≤ -sg by omega) (by omega), wr (show -9223372036854775808 ≤ (i : Int) + 1 by omega) (by omega)]
      refine ev_pos hc (ev_pos (by omega) ?_)
      have := signs_loop n hs l hl d (i + 1) (-sg) (out ++ [-sg]) (by omega) (by omega) (by simp [ho])
      rw [List.append_assoc] at this
      exact this
    · rw [if_neg hc, wr (show -9223372036854775808 ≤ (i : Int) + 1 by omega) (by omega)]
      refine ev_neg hc (ev_pos (by omega) ?_)
      have := signs_loop n hs l hl d (i + 1) sg (out ++ [sg]) hsg (by omega) (by simp [ho])
      rw [List.append_assoc] at this
      exact this
theorem nlSigns_ev (s : ByteArray) (hs : s.size ≤ 16) (l : List Int) (hl : l.length ≤ 1048576) : Ev (fun k => spec_nlSigns.f k s l) (signsFn l s.size 0 1) :=
  nlSigns_loop s hs l hl s.size 0 1 [] (.inl rfl) (by omega) rfl
theorem signs_ev (s : ByteArray) (hs : s.size ≤ 16) (l : List Int) (hl : l.length ≤ 1048576) : Ev (fun k => impl_signs.f k s l) (signsFn l s.size 0 1) :=
  signs_loop s.size hs l hl s.size 0 1 [] (.inl rfl) (by omega) rfl
end Go.Proofs.YthkdkgbcokpbaacGreatDoor.QFnNecklacesShared
/-! Necklaces: the shares of the first thief, and fair cuts. -/
namespace Go.Proofs.YthkdkgbcokpbaacGreatDoor.QFnNecklacesShared
open Go.RowKit Go.Proofs.YthkdkgbcokpbaacGreatDoor.PFnNecklacesShared Go.Proofs.YthkdkgbcokpbaacGreatDoorW.PrintWords Go.Proofs.YthkdkgbcokpbaacGreatDoorW.PrintLast Go.Proofs.YthkdkgbcokpbaacGreatDoorW.PrintMore
set_option linter.unusedVariables false
set_option linter.unusedSimpArgs false
set_option maxRecDepth 100000
/-- The beads of the first thief among the first i. -/
def mine (bs : List UInt8) (sg : List Int) : Nat → List UInt8
  | 0 => []
  | i + 1 => if rd sg (i : Int) = 1 then mine bs sg i ++ (match bs[i]? with | some b => [b] | none => []) else mine bs sg i
theorem mine_len (bs : List UInt8) (sg : List Int) : ∀ i, (mine bs sg i).length ≤ i
  | 0 => Nat.le_refl _
  | i + 1 => by
    have := mine_len bs sg i
    unfold mine
    split
    · rw [List.length_append]; split <;> simp <;> omega
    · omega
theorem mine_some {bs : List UInt8} {sg : List Int} {i : Nat} {b : UInt8} (hg : bs[i]? = some b) (h : rd sg (i : Int) = 1) : mine bs sg (i + 1) = mine bs sg i ++ [b] := by
  show (if rd sg (i : Int) = 1 then _ else _) = _
  rw [if_pos h, hg]
theorem mine_none {bs : List UInt8} {sg : List Int} {i : Nat} (h : ¬ rd sg (i : Int) = 1) : mine bs sg (i + 1) = mine bs sg i := by
  show (if rd sg (i : Int) = 1 then _ else _) = _
  rw [if_neg h]
theorem nlShares_loop (s : ByteArray) (hb : beads s = true) (hs : s.size ≤ 16) (sg : List Int) (hl : sg.length = s.size) : ∀ d i : Nat, i + d = s.size →
    Ev (fun k => spec_nlShares.l0 k s (cntL (mine s.data.toList sg i)) sg (sg.length : Int) (i : Int)) (cntL (mine s.data.toList sg s.size))
  | 0, i, h => by
    have e : i = s.size := by omega
    subst e
    exact Ev.step (fun f => spec_nlShares.l0.eq_2 ..) (ev_neg (by omega) (Ev.now _))
  | d + 1, i, h => by
    obtain ⟨b, hg⟩ := get_lt (s := s) (i := i) (by omega)
    have hk := kind_range (bead_at hb hg)
    have hm := mine_len s.data.toList sg i
    have ih := nlShares_loop s hb hs sg hl d (i + 1) (by omega)
    refine Ev.step (fun f => spec_nlShares.l0.eq_2 ..) (ev_pos (by omega) (ev_pos (by omega) (ev_pos (by omega) ?_)))
    rw [wr (show -9223372036854775808 ≤ (i : Int) + 1 by omega) (by omega)]
    by_cases hc : rd sg (i : Int) = 1
    · refine ev_pos hc (ev_pos (by omega) ?_)
      rw [bt_get hg]
      refine ev_pos hk.1 (ev_pos (by rw [cntL_len]; exact hk.2) ?_)
      rw [cnt_step _ _ (bead_at hb hg) (by omega), ← mine_some hg hc]
      exact ih
    · rw [mine_none hc] at ih
      exact ev_neg hc ih
theorem shares_loop (s : ByteArray) (hb : beads s = true) (hs : s.size ≤ 16) (sg : List Int) (hl : sg.length = s.size) (hu : ∀ x ∈ sg, x = 1 ∨ x = -1) : ∀ d i : Nat, i + d = s.size →
    Ev (fun k => impl_shares.l0 k s (cntL (mine s.data.toList sg i)) sg (sg.length : Int) (i : Int)) (cntL (mine s.data.toList sg s.size))
  | 0, i, h => by
    have e : i = s.size := by omega
    subst e
    exact Ev.step (fun f => impl_shares.l0.eq_2 ..) (ev_neg (by omega) (Ev.now _))
  | d + 1, i, h => by
    obtain ⟨b, hg⟩ := get_lt (s := s) (i := i) (by omega)
    have hk := kind_range (bead_at hb hg)
    have hm := mine_len s.data.toList sg i
    have ih := shares_loop s hb hs sg hl hu d (i + 1) (by omega)
    have hx : rd sg (i : Int) = 1 ∨ rd sg (i : Int) = -1 := by
      rw [rd_nat, List.getD_eq_getElem?_getD, List.getElem?_eq_getElem (by omega)]
      exact hu _ (List.getElem_mem _)
    refine Ev.step (fun f => impl_shares.l0.eq_2 ..) (ev_pos (by omega) (ev_pos (by omega) (ev_pos (by omega) ?_)))
    rw [wr (show -9223372036854775808 ≤ (i : Int) + 1 by omega) (by omega)]
    by_cases hc : rd sg (i : Int) = 1
    · refine ev_pos (by omega) (ev_pos (by omega) ?_)
      rw [bt_get hg]
      refine ev_pos hk.1 (ev_pos (by rw [cntL_len]; exact hk.2) ?_)
      rw [cnt_step _ _ (bead_at hb hg) (by omega), ← mine_some hg hc]
      exact ih
    · rw [mine_none hc] at ih
      exact ev_neg (by omega) ih
/-- The shares of the first thief. -/
def shareL (s : ByteArray) (l : List Int) : List Int := cntL (mine s.data.toList (signsFn l s.size 0 1) s.size)
theorem nlShares_ev (s : ByteArray) (hb : beads s = true) (hs : s.size ≤ 16) (l : List Int) (hl : l.length ≤ 1048576) : Ev (fun k => spec_nlShares.f k s l) (shareL s l) :=
  ev_pos (by decide) (Ev.bind (nlSigns_ev s hs l hl) (nlShares_loop s hb hs _ (signsFn_len _ _ _ _) s.size 0 (by omega)))
theorem shares_ev (s : ByteArray) (hb : beads s = true) (hs : s.size ≤ 16) (l : List Int) (hl : l.length ≤ 1048576) : Ev (fun k => impl_shares.f k s l) (shareL s l) :=
  ev_pos (by decide) (Ev.bind (signs_ev s hs l hl) (shares_loop s hb hs _ (signsFn_len _ _ _ _) (signsFn_unit _ _ _ _ (.inl rfl)) s.size 0 (by omega)))
end Go.Proofs.YthkdkgbcokpbaacGreatDoor.QFnNecklacesShared
/-! Necklaces: fair cuts. -/
namespace Go.Proofs.YthkdkgbcokpbaacGreatDoor.QFnNecklacesShared
open Go.RowKit Go.Proofs.YthkdkgbcokpbaacGreatDoor.PFnNecklacesShared Go.Proofs.YthkdkgbcokpbaacGreatDoorW.PrintWords Go.Proofs.YthkdkgbcokpbaacGreatDoorW.PrintLast Go.Proofs.YthkdkgbcokpbaacGreatDoorW.PrintMore
set_option linter.unusedVariables false
set_option linter.unusedSimpArgs false
set_option maxRecDepth 100000
/-- Twice the one is the other, at d places from i on. -/
def twice (a b : List Int) : Nat → Nat → Bool
  | 0, _ => true
  | d + 1, i => if 2 * rd a (i : Int) = rd b (i : Int) then twice a b d (i + 1) else false
theorem nlFair_loop (x y : List UInt8) (hx : x.length ≤ 16) : ∀ d i : Nat, i + d = 4 → Ev (fun k => spec_nlFair.l0 k (cntL y) (cntL x) 4 (i : Int)) (twice (cntL x) (cntL y) d i)
  | 0, i, h => Ev.step (fun f => spec_nlFair.l0.eq_2 ..) (ev_neg (by omega) (Ev.now _))
  | d + 1, i, h => by
    have hb := cntL_le x i
    refine Ev.step (fun f => spec_nlFair.l0.eq_2 ..) (ev_pos (by omega) (ev_pos (by omega) (ev_pos (by rw [cntL_len]; omega) (ev_pos (by rw [cntL_len]; omega) ?_))))
    unfold twice
    rw [wr (show -9223372036854775808 ≤ 2 * rd (cntL x) (i : Int) by omega) (by omega), wr (show -9223372036854775808 ≤ (i : Int) + 1 by omega) (by omega)]
    by_cases hc : 2 * rd (cntL x) (i : Int) = rd (cntL y) (i : Int)
    · rw [if_pos hc]; exact ev_pos hc (nlFair_loop x y hx d (i + 1) (by omega))
    · rw [if_neg hc]; exact ev_neg hc (Ev.now _)
theorem isFair_loop (x y : List UInt8) (hx : x.length ≤ 16) : ∀ d i : Nat, i + d = 4 → Ev (fun k => impl_isFair.l0 k (cntL x) (cntL y) 4 (i : Int)) (twice (cntL x) (cntL y) d i)
  | 0, i, h => Ev.step (fun f => impl_isFair.l0.eq_2 ..) (ev_neg (by omega) (Ev.now _))
  | d + 1, i, h => by
    have hb := cntL_le x i
    refine Ev.step (fun f => impl_isFair.l0.eq_2 ..) (ev_pos (by omega) (ev_pos (by omega) (ev_pos (by rw [cntL_len]; omega) (ev_pos (by rw [cntL_len]; omega) ?_))))
    unfold twice
    rw [wr (show -9223372036854775808 ≤ 2 * rd (cntL x) (i : Int) by omega) (by omega), wr (show -9223372036854775808 ≤ (i : Int) + 1 by omega) (by omega)]
    by_cases hc : 2 * rd (cntL x) (i : Int) = rd (cntL y) (i : Int)
    · rw [if_pos hc]; exact ev_pos hc (isFair_loop x y hx d (i + 1) (by omega))
    · rw [if_neg hc]; exact ev_neg hc (Ev.now _)
/-- Are cuts fair? -/
def fairOf (s : ByteArray) (l : List Int) : Bool := twice (shareL s l) (cntL s.data.toList) 4 0
theorem nlFair_ev (s : ByteArray) (hb : beads s = true) (hs : s.size ≤ 16) (l : List Int) (hl : l.length ≤ 1048576) : Ev (fun k => spec_nlFair.f k s l) (fairOf s l) :=
  Ev.bind (nlCounts_ev s hb (by omega)) (Ev.bind (nlShares_ev s hb hs l hl) (nlFair_loop _ _ (Nat.le_trans (mine_len _ _ _) hs) 4 0 rfl))
theorem isFair_ev (s : ByteArray) (hb : beads s = true) (hs : s.size ≤ 16) (l : List Int) (hl : l.length ≤ 1048576) : Ev (fun k => impl_isFair.f k s l) (fairOf s l) :=
  Ev.bind (counts_ev s hb (by omega)) (Ev.bind (shares_ev s hb hs l hl) (isFair_loop _ _ (Nat.le_trans (mine_len _ _ _) hs) 4 0 rfl))
end Go.Proofs.YthkdkgbcokpbaacGreatDoor.QFnNecklacesShared
/-! Necklaces: lists of cuts, signs and shares: what both programs' loops tell. -/
namespace Go.Proofs.YthkdkgbcokpbaacGreatDoor.QFnNecklacesShared
open Go.RowKit Go.Proofs.YthkdkgbcokpbaacGreatDoor.PFnNecklacesShared Go.Proofs.YthkdkgbcokpbaacGreatDoorW.PrintWords Go.Proofs.YthkdkgbcokpbaacGreatDoorW.PrintLast Go.Proofs.YthkdkgbcokpbaacGreatDoorW.PrintMore
set_option linter.unusedVariables false
set_option linter.unusedSimpArgs false
set_option maxRecDepth 100000
theorem in_spec (a b c : Int) : spec_l1In.f a b c = some (decide (b ≤ a ∧ a ≤ c)) := by
  unfold spec_l1In.f
  by_cases h : a ≥ b
  · rw [if_pos h]; simp [show b ≤ a from h]
  · rw [if_neg h]; simp [show ¬ b ≤ a from h]
theorem in_impl (a b c : Int) : impl_in.f a b c = some (decide (b ≤ a ∧ a ≤ c)) := by
  unfold impl_in.f
  by_cases h : b ≤ a
  · rw [if_pos h]; simp [h]
  · rw [if_neg h]; simp [h]
/-- d numbers from the place i on are between 1 and m, each above the one ahead of it. -/
def rise (m : Int) (l : List Int) : Nat → Nat → Bool
  | 0, _ => true
  | d + 1, i => if 1 ≤ rd l (i : Int) ∧ rd l (i : Int) ≤ m then (if 0 < i ∧ rd l ((i : Int) - 1) ≥ rd l (i : Int) then false else rise m l d (i + 1)) else false
theorem areCuts_loop (s : ByteArray) (hs : s.size ≤ 16) (l : List Int) (hl : l.length ≤ 1048576) : ∀ d i : Nat, i + d = l.length → Ev (fun k => impl_areCuts.l0 k s l l (l.length : Int) (i : Int)) (rise ((s.size : Int) - 1) l d i)
  | 0, i, h => Ev.step (fun f => impl_areCuts.l0.eq_2 ..) (ev_neg (by omega) (Ev.now _))
  | d + 1, i, h => by
    refine Ev.step (fun f => impl_areCuts.l0.eq_2 ..) (ev_pos (by omega) (ev_pos (by omega) (ev_pos (by omega) (ev_bind0 (in_impl _ _ _) ?_))))
    rw [wr (show -9223372036854775808 ≤ (s.size : Int) - 1 by omega) (by omega)]
    unfold rise
    have ih := areCuts_loop s hs l hl d (i + 1) (by omega)
    by_cases hc : 1 ≤ rd l (i : Int) ∧ rd l (i : Int) ≤ (s.size : Int) - 1
    · rw [decide_eq_true hc, if_pos hc]
      refine ev_pos rfl ?_
      by_cases hi : 0 < i
      · refine ev_pos (by omega) ?_
        rw [wr (show -9223372036854775808 ≤ (i : Int) - 1 by omega) (by omega), wr (show -9223372036854775808 ≤ (i : Int) + 1 by omega) (by omega)]
        refine ev_pos (by omega) (ev_pos (by omega) ?_)
        by_cases hr : rd l ((i : Int) - 1) ≥ rd l (i : Int)
        · rw [if_pos ⟨hi, hr⟩]; exact ev_pos hr (Ev.now _)
        · rw [if_neg (fun z => hr z.2)]; exact ev_neg hr ih
      · rw [if_neg (fun z => hi z.1)]
        refine ev_neg (by omega) ?_
        rw [wr (show -9223372036854775808 ≤ (i : Int) + 1 by omega) (by omega)]
        exact ih
    · rw [decide_eq_false hc, if_neg hc]
      exact ev_neg (by decide) (Ev.now _)
/-- The lists that are cuts of a necklace. -/
def cutsOf (s : ByteArray) (l : List Int) : Bool := neckl s && rise ((s.size : Int) - 1) l l.length 0
theorem areCuts_ev (s : ByteArray) (l : List Int) (hl : l.length ≤ 1048576) : Ev (fun k => impl_areCuts.f k s l) (cutsOf s l) := by
  have e := isNecklace_ev s
  unfold cutsOf
  cases hn : neckl s with
  | false => rw [hn] at e; exact ev_bind0 e (ev_neg (by decide) (Ev.now _))
  | true =>
    rw [hn] at e
    exact ev_bind0 e (ev_pos rfl (areCuts_loop s (neckl_size hn) l hl l.length 0 (by omega)))
end Go.Proofs.YthkdkgbcokpbaacGreatDoor.QFnNecklacesShared
/-! Necklaces: all lists of cuts, as the program lays them out and as the reference counts them. -/
namespace Go.Proofs.YthkdkgbcokpbaacGreatDoor.QFnNecklacesShared
open Go.RowKit Go.Proofs.YthkdkgbcokpbaacGreatDoor.PFnNecklacesShared Go.Proofs.YthkdkgbcokpbaacGreatDoorW.PrintWords Go.Proofs.YthkdkgbcokpbaacGreatDoorW.PrintLast Go.Proofs.YthkdkgbcokpbaacGreatDoorW.PrintMore
set_option linter.unusedVariables false
set_option linter.unusedSimpArgs false
set_option maxRecDepth 100000
/-- For d numbers from x on: the lists that begin with the number and go on as g says. -/
def chFrom (g : Nat → List (List Int)) : Nat → Nat → List (List Int)
  | 0, _ => []
  | d + 1, x => ((g (x + 1)).map fun r => (x : Int) :: r) ++ chFrom g d (x + 1)
/-- All rising lists of m numbers from a on, below n. -/
def ch (n : Nat) : Nat → Nat → List (List Int)
  | 0, _ => [[]]
  | m + 1, a => chFrom (ch n m) (n - a) a
theorem chFrom_len (g : Nat → List (List Int)) (B : Nat) (h : ∀ x, (g x).length ≤ B) : ∀ d x, (chFrom g d x).length ≤ d * B
  | 0, x => by simp [chFrom]
  | d + 1, x => by
    have ih := chFrom_len g B h d (x + 1)
    have h1 := h (x + 1)
    unfold chFrom
    rw [List.length_append, List.length_map, Nat.add_mul, Nat.one_mul]
    omega
theorem ch_len (n : Nat) (hn : n ≤ 16) : ∀ m a, (ch n m a).length ≤ 16 ^ m
  | 0, a => by simp [ch]
  | m + 1, a => by
    have := chFrom_len (ch n m) (16 ^ m) (ch_len n hn m) (n - a) a
    unfold ch
    rw [Nat.pow_succ]
    refine Nat.le_trans this ?_
    rw [Nat.mul_comm]
    exact Nat.mul_le_mul_left _ (by omega)
theorem ch_len3 (n : Nat) (hn : n ≤ 16) (m a : Nat) (hm : m ≤ 3) : (ch n m a).length ≤ 4096 := by
  have h1 := ch_len n hn m a
  have h2 : 16 ^ m ≤ 16 ^ 3 := Nat.pow_le_pow_right (by omega) hm
  omega
theorem chFrom_mem {g : Nat → List (List Int)} {m : Nat} (h : ∀ x r, r ∈ g x → r.length = m) : ∀ d x r, r ∈ chFrom g d x → r.length = m + 1
  | 0, x, r, hr => by simp [chFrom] at hr
  | d + 1, x, r, hr => by
    unfold chFrom at hr
    rcases List.mem_append.1 hr with h1 | h1
    · obtain ⟨q, hq, rfl⟩ := List.mem_map.1 h1
      rw [List.length_cons, h _ _ hq]
    · exact chFrom_mem h d (x + 1) r h1
theorem ch_mem (n : Nat) : ∀ m a r, r ∈ ch n m a → r.length = m
  | 0, a, r, h => by simp [ch] at h; rw [h]; rfl
  | m + 1, a, r, h => chFrom_mem (ch_mem n m) _ _ r h
theorem rdL_at {T : List (List Int)} {j : Nat} (h : j < T.length) : rd_L3 T (j : Int) = T[j] := by
  unfold rd_L3
  rw [Int.toNat_natCast, List.getD_eq_getElem?_getD, List.getElem?_eq_getElem h]
  rfl
theorem l1_loop (n m : Nat) (T : List (List Int)) (hTl : T.length ≤ 100000) (hT : ∀ r ∈ T, r.length ≤ 4) (x : Nat) (R : List (List Int)) : ∀ (d j : Nat) (acc : List (List Int)), j + d = T.length → acc.length + d ≤ 1000000 → x ≤ 100 →
    Ev (fun k => impl_choices.l0 k (n : Int) (m : Int) (acc ++ (T.drop j).map fun r => (x : Int) :: r) ((x : Int) + 1)) R → Ev (fun k => impl_choices.l1 k (n : Int) (m : Int) acc (x : Int) T (T.length : Int) (j : Int)) R
  | 0, j, acc, h, ha, hx, cont => by
    rw [List.drop_eq_nil_of_le (by omega), List.map_nil, List.append_nil] at cont
    refine Ev.step (fun f => impl_choices.l1.eq_2 ..) (ev_neg (by omega) ?_)
    rw [wr (by omega) (by omega)]
    exact cont
  | d + 1, j, acc, h, ha, hx, cont => by
    have hlt : j < T.length := by omega
    have hm := hT _ (List.getElem_mem hlt)
    refine Ev.step (fun f => impl_choices.l1.eq_2 ..) (ev_pos (by omega) (ev_pos (by omega) (ev_pos (by omega) (ev_bind0 rfl ?_))))
    rw [rdL_at hlt, wr (by omega) (by omega)]
    refine ev_pos (by simp; omega) (ev_pos (by omega) ?_)
    refine l1_loop n m T hTl hT x R d (j + 1) (acc ++ [[(x : Int)] ++ T[j]]) (by omega) (by simp; omega) hx ?_
    rw [List.append_assoc]
    rw [List.drop_eq_getElem_cons hlt, List.map_cons] at cont
    exact cont
theorem l0_loop (n m : Nat) (hn : n ≤ 16) (hm : m ≤ 3) (ih : ∀ a : Nat, a ≤ 100 → Ev (fun k => impl_choices.f k (n : Int) (m : Int) (a : Int)) (ch n m a)) : ∀ (d x : Nat) (acc : List (List Int)), d = n - x → x ≤ 100 → acc.length + d * 4096 ≤ 70000 →
    Ev (fun k => impl_choices.l0 k (n : Int) ((m + 1 : Nat) : Int) acc (x : Int)) (acc ++ chFrom (ch n m) d x)
  | 0, x, acc, h, hx, ha => Ev.step (fun f => impl_choices.l0.eq_2 ..) (ev_neg (by omega) (ev_eq (Ev.now _) (by simp [chFrom])))
  | d + 1, x, acc, h, hx, ha => by
    have hl := ch_len3 n hn m (x + 1) hm
    refine Ev.step (fun f => impl_choices.l0.eq_2 ..) (ev_pos (by omega) ?_)
    rw [wr (show -9223372036854775808 ≤ (x : Int) + 1 by omega) (by omega), wr (show -9223372036854775808 ≤ ((m + 1 : Nat) : Int) - 1 by omega) (by omega), show ((m + 1 : Nat) : Int) - 1 = (m : Int) by omega]
    refine Ev.bind (ih (x + 1) (by omega)) ?_
    refine l1_loop n (m + 1) (ch n m (x + 1)) (by omega) (fun r hr => by rw [ch_mem n m _ r hr]; omega) x _ (ch n m (x + 1)).length 0 acc (by omega) (by omega) hx ?_
    rw [List.drop_zero]
    have := l0_loop n m hn hm ih d (x + 1) (acc ++ (ch n m (x + 1)).map fun r => (x : Int) :: r) (by omega) (by omega) (by rw [List.length_append, List.length_map]; omega)
    rw [List.append_assoc] at this
    exact this
theorem choices_ev (n : Nat) (hn : n ≤ 16) : ∀ (m : Nat), m ≤ 4 → ∀ a : Nat, a ≤ 100 → Ev (fun k => impl_choices.f k (n : Int) (m : Int) (a : Int)) (ch n m a)
  | 0, _, a, ha => Ev.step (fun f => impl_choices.f.eq_2 ..) (ev_pos rfl (Ev.now _))
  | m + 1, hm, a, ha => by
    refine Ev.step (fun f => impl_choices.f.eq_2 ..) (ev_neg (by omega) ?_)
    have := l0_loop n m hn (by omega) (fun b hb => choices_ev n hn m (by omega) b hb) (n - a) a [] rfl ha (by simp; omega)
    rw [List.nil_append] at this
    exact this
theorem ev_all {α β : Type} (g : Nat → α → Option β) (v : α → β) : ∀ t : List α, (∀ x ∈ t, Ev (fun k => g k x) (v x)) → ∃ K, ∀ k, K ≤ k → ∀ x ∈ t, g k x = some (v x)
  | [], _ => ⟨0, fun _ _ x hx => by cases hx⟩
  | y :: t, h => by
    obtain ⟨K, hK⟩ := ev_all g v t (fun x hx => h x (List.mem_cons_of_mem _ hx))
    obtain ⟨K', hK'⟩ := h y List.mem_cons_self
    refine ⟨max K K', fun k hk x hx => ?_⟩
    rcases List.mem_cons.1 hx with e | e
    · subst e; exact hK' k (by omega)
    · exact hK k (by omega) x e
theorem fairCuts_ev (s : ByteArray) (hb : beads s = true) (hs : s.size ≤ 16) (m : Nat) (hm : m ≤ 4) : Ev (fun k => impl_fairCuts.f k s (m : Int)) ((ch s.size m 1).filter (fairOf s)) := by
  refine Ev.bind (choices_ev s.size hs m hm 1 (by omega)) ?_
  have hone : ∀ x ∈ ch s.size m 1, Ev (fun k => impl_fairCuts_1.f k x [s]) (!fairOf s x) := fun x hx => by
    have hl := ch_mem s.size m 1 x hx
    refine ev_pos (by simp) ?_
    exact Ev.bind (isFair_ev s hb hs x (by omega)) (Ev.now _)
  obtain ⟨K, hK⟩ := ev_all (fun k x => impl_fairCuts_1.f k x [s]) (fun x => !fairOf s x) _ hone
  have hlen := ch_len s.size hs m 1
  have hp : 16 ^ m ≤ 16 ^ 4 := Nat.pow_le_pow_right (by omega) hm
  refine ⟨K, fun k hk => ?_⟩
  have hq : ∀ x ∈ ch s.size m 1, impl_fairCuts_1.f k x [s] = some (!fairOf s x) := hK k hk
  show (if ((ch s.size m 1).all fun x => (impl_fairCuts_1.f k x [s]).isSome) && decide ((ch s.size m 1).length ≤ 9223372036854775807) then some ((ch s.size m 1).filter fun x => !impl_fairCuts.q k s x) else none) = _
  rw [if_pos]
  · congr 1
    refine List.filter_congr fun x hx => ?_
    unfold impl_fairCuts.q
    rw [hq x hx]
    cases fairOf s x <;> rfl
  · rw [Bool.and_eq_true]
    exact ⟨List.all_eq_true.2 fun x hx => by rw [hq x hx]; rfl, decide_eq_true (by omega)⟩
/-! ### the reference -/
/-- The first fair one of some lists, and how many are fair. -/
def sp (s : ByteArray) (L : List (List Int)) : List Int × Int := ((L.filter (fairOf s)).headD [], ((L.filter (fairOf s)).length : Int))
theorem hd_append (A B : List (List Int)) : ((A ++ B).headD [], ((A ++ B).length : Int)) = if (A.length : Int) = 0 then (if (B.length : Int) > 0 then (B.headD [], (A.length : Int) + (B.length : Int)) else (A.headD [], (A.length : Int) + (B.length : Int))) else (A.headD [], (A.length : Int) + (B.length : Int)) := by
  have e : ((A ++ B).length : Int) = (A.length : Int) + (B.length : Int) := by rw [List.length_append]; omega
  rw [e]
  cases A with
  | nil =>
    rw [if_pos (show (([] : List (List Int)).length : Int) = 0 from rfl)]
    cases B with
    | nil => rw [if_neg (by decide)]; rfl
    | cons y B => rw [if_pos (by rw [List.length_cons]; omega)]; rfl
  | cons x A => rw [if_neg (by rw [List.length_cons]; omega)]; rfl
theorem sp_append (s : ByteArray) (L M : List (List Int)) : sp s (L ++ M) = if (sp s L).2 = 0 then (if (sp s M).2 > 0 then ((sp s M).1, (sp s L).2 + (sp s M).2) else ((sp s L).1, (sp s L).2 + (sp s M).2)) else ((sp s L).1, (sp s L).2 + (sp s M).2) := by
  unfold sp
  rw [List.filter_append]
  exact hd_append _ _
theorem sp_le (s : ByteArray) (L : List (List Int)) : 0 ≤ (sp s L).2 ∧ (sp s L).2 ≤ L.length := by
  have := List.length_filter_le (fairOf s) L
  unfold sp
  show 0 ≤ (((L.filter (fairOf s)).length : Nat) : Int) ∧ (((L.filter (fairOf s)).length : Nat) : Int) ≤ _
  omega
theorem own_ev (l : List Int) (h : l.length ≤ 100) : spec_l1Own.f l = some l := by
  unfold spec_l1Own.f
  rw [Option.bind_some, if_pos (by simp; omega), List.nil_append]
/-- Where the next cut may lie. -/
def From (cuts : List Int) (a : Nat) : Prop := (cuts = [] ∧ a = 1) ∨ (0 < cuts.length ∧ rd cuts ((cuts.length - 1 : Nat) : Int) + 1 = (a : Int))
theorem from_snoc (cuts : List Int) (x : Nat) : From (cuts ++ [(x : Int)]) (x + 1) := by
  refine .inr ⟨by simp, ?_⟩
  have : rd (cuts ++ [(x : Int)]) (((cuts ++ [(x : Int)]).length - 1 : Nat) : Int) = (x : Int) := by
    unfold rd
    rw [Int.toNat_natCast, List.length_append, List.length_singleton, Nat.add_sub_cancel, List.getD_eq_getElem?_getD, List.getElem?_append_right (Nat.le_refl _), Nat.sub_self]
    rfl
  rw [this]; omega
theorem map_cons_app (cuts : List Int) (x : Int) (T : List (List Int)) : (T.map fun r => x :: r).map (fun r => cuts ++ r) = T.map fun r => (cuts ++ [x]) ++ r := by
  rw [List.map_map]
  refine List.map_congr_left fun r _ => ?_
  simp
theorem spl_loop (s : ByteArray) (hb : beads s = true) (hs : s.size ≤ 16) (m : Nat) (hm : m ≤ 3) (cuts : List Int) (hc : cuts.length + m ≤ 10)
    (ih : ∀ (x : Nat), x ≤ 100 → Ev (fun k => spec_nlSplits.f k s (cuts ++ [(x : Int)]) (m : Int)) (sp s ((ch s.size m (x + 1)).map fun r => (cuts ++ [(x : Int)]) ++ r))) :
    ∀ (d x : Nat) (L : List (List Int)), d = s.size - x → x ≤ 100 → L.length + d * 4096 ≤ 70000 →
      Ev (fun k => spec_nlSplits.l0 k s cuts ((m + 1 : Nat) : Int) (sp s L).1 (sp s L).2 (x : Int)) (sp s (L ++ (chFrom (ch s.size m) d x).map fun r => cuts ++ r))
  | 0, x, L, h, hx, hl => Ev.step (fun f => spec_nlSplits.l0.eq_2 ..) (ev_neg (by omega) (ev_eq (Ev.now _) (by simp [chFrom])))
  | d + 1, x, L, h, hx, hl => by
    have h1 := sp_le s L
    have h2 := sp_le s ((ch s.size m (x + 1)).map fun r => (cuts ++ [(x : Int)]) ++ r)
    have h3 := ch_len3 s.size hs m (x + 1) hm
    rw [List.length_map] at h2
    have h4 := sp_append s L ((ch s.size m (x + 1)).map fun r => (cuts ++ [(x : Int)]) ++ r)
    have hrec := spl_loop s hb hs m hm cuts hc ih d (x + 1) (L ++ (ch s.size m (x + 1)).map fun r => (cuts ++ [(x : Int)]) ++ r) (by omega) (by omega) (by rw [List.length_append, List.length_map]; omega)
    have e : L ++ (chFrom (ch s.size m) (d + 1) x).map (fun r => cuts ++ r) = (L ++ (ch s.size m (x + 1)).map fun r => (cuts ++ [(x : Int)]) ++ r) ++ (chFrom (ch s.size m) d (x + 1)).map fun r => cuts ++ r := by
      rw [chFrom, List.map_append, map_cons_app, List.append_assoc]
    rw [e]
    refine Ev.step (fun f => spec_nlSplits.l0.eq_2 ..) (ev_pos (by omega) (ev_bind0 (own_ev cuts (by omega)) (ev_pos (by omega) ?_)))
    rw [wr (show -9223372036854775808 ≤ ((m + 1 : Nat) : Int) - 1 by omega) (by omega), show ((m + 1 : Nat) : Int) - 1 = (m : Int) by omega]
    refine Ev.bind (ih x hx) ?_
    rw [wr (show -9223372036854775808 ≤ (x : Int) + 1 by omega) (by omega), wr (show -9223372036854775808 ≤ (sp s L).2 + (sp s ((ch s.size m (x + 1)).map fun r => (cuts ++ [(x : Int)]) ++ r)).2 by omega) (by omega)]
    rw [h4] at hrec
    by_cases c1 : (sp s L).2 = 0
    · rw [if_pos c1] at hrec
      refine ev_pos c1 ?_
      by_cases c2 : (sp s ((ch s.size m (x + 1)).map fun r => (cuts ++ [(x : Int)]) ++ r)).2 > 0
      · rw [if_pos c2] at hrec
        exact ev_pos c2 hrec
      · rw [if_neg c2] at hrec
        exact ev_neg c2 hrec
    · rw [if_neg c1] at hrec
      exact ev_neg c1 hrec
theorem splits_ev (s : ByteArray) (hb : beads s = true) (hs : s.size ≤ 16) : ∀ (m : Nat), m ≤ 4 → ∀ (cuts : List Int) (a : Nat), From cuts a → a ≤ 101 → cuts.length + m ≤ 10 → Ev (fun k => spec_nlSplits.f k s cuts (m : Int)) (sp s ((ch s.size m a).map fun r => cuts ++ r))
  | 0, _, cuts, a, hF, ha, hc => by
    refine Ev.step (fun f => spec_nlSplits.f.eq_2 ..) (ev_pos rfl (Ev.bind (nlFair_ev s hb hs cuts (by omega)) ?_))
    have e : sp s ((ch s.size 0 a).map fun r => cuts ++ r) = if fairOf s cuts = true then (cuts, 1) else ([], 0) := by
      show sp s [cuts ++ []] = _
      rw [List.append_nil]
      unfold sp
      cases hf : fairOf s cuts <;> simp [hf]
    rw [e]
    by_cases hf : fairOf s cuts = true
    · rw [if_pos hf]
      refine ev_eq ?_ (if_pos hf).symm
      exact ev_bind0 (own_ev cuts (by omega)) (Ev.now _)
    · rw [if_neg hf]
      exact ev_eq (Ev.now _) (if_neg hf).symm
  | m + 1, hm, cuts, a, hF, ha, hc => by
    have hj : Ev (fun k => spec_nlSplits.j0 k s cuts ((m + 1 : Nat) : Int) (a : Int)) (sp s ((ch s.size (m + 1) a).map fun r => cuts ++ r)) := by
      refine Ev.step (fun f => spec_nlSplits.j0.eq_2 ..) ?_
      rcases Nat.lt_or_ge 100 a with hbig | hbig
      · have e : ch s.size (m + 1) a = [] := by
          show chFrom _ (s.size - a) a = []
          rw [show s.size - a = 0 by omega]; rfl
        rw [e]
        exact Ev.step (fun f => spec_nlSplits.l0.eq_2 ..) (ev_neg (by omega) (Ev.now _))
      · have := spl_loop s hb hs m (by omega) cuts (by omega) (fun x hx => splits_ev s hb hs m (by omega) (cuts ++ [(x : Int)]) (x + 1) (from_snoc cuts x) (by omega) (by simp; omega)) (s.size - a) a [] rfl hbig (by simp; omega)
        rw [List.nil_append] at this
        exact this
    refine Ev.step (fun f => spec_nlSplits.f.eq_2 ..) (ev_neg (by omega) ?_)
    rcases hF with ⟨h1, h2⟩ | ⟨h1, h2⟩
    · subst h1 h2
      exact ev_neg (by simp) hj
    · rw [wr (show -9223372036854775808 ≤ (cuts.length : Int) - 1 by omega) (by omega), show (cuts.length : Int) - 1 = ((cuts.length - 1 : Nat) : Int) by omega]
      refine ev_pos (by omega) (ev_pos (by omega) (ev_pos (by omega) ?_))
      rw [h2, wr (by omega) (by omega)]
      exact hj
end Go.Proofs.YthkdkgbcokpbaacGreatDoor.QFnNecklacesShared
/-! The necklace theorem of two thieves, by Fan's lemma: as many cuts as kinds are enough. -/
set_option linter.unusedVariables false
set_option linter.unusedSimpArgs false
set_option linter.unusedSectionVars false
namespace Go.Proofs.YthkdkgbcokpbaacGreatDoor.QFnNecklacesShared.Neck
/-! ### even numbers -/
theorem even_invol {α : Type} [DecidableEq α] (f : α → α) : ∀ (n : Nat) (L : List α), L.length = n → L.Nodup → (∀ x ∈ L, f x ∈ L ∧ f (f x) = x ∧ f x ≠ x) → n % 2 = 0 := by
  intro n
  induction n using Nat.strongRecOn with
  | _ n ih =>
    intro L hl hn hf
    cases L with
    | nil => subst hl; rfl
    | cons x r =>
      obtain ⟨h1, h2, h3⟩ := hf x List.mem_cons_self
      obtain ⟨hx, hr⟩ := List.nodup_cons.1 hn
      have hfx : f x ∈ r := (List.mem_cons.1 h1).resolve_left h3
      have hlen := List.length_erase_of_mem hfx
      have hpos : 0 < r.length := List.length_pos_of_mem hfx
      rw [List.length_cons] at hl
      have := ih (n - 2) (by omega) (r.erase (f x)) (by omega) (hr.erase _) (fun y hy => by
        obtain ⟨hy1, hy2⟩ := hr.mem_erase_iff.1 hy
        obtain ⟨g1, g2, g3⟩ := hf y (List.mem_cons_of_mem _ hy2)
        have e1 : f y ≠ x := fun e => hy1 (by rw [← e, g2])
        have e2 : f y ≠ f x := fun e => hx (by rw [← h2, ← e, g2]; exact hy2)
        exact ⟨hr.mem_erase_iff.2 ⟨e2, (List.mem_cons.1 g1).resolve_left e1⟩, g2, g3⟩)
      omega
theorem len_le {α : Type} [DecidableEq α] : ∀ (A B : List α), A.Nodup → (∀ x ∈ A, x ∈ B) → A.length ≤ B.length
  | [], _, _, _ => Nat.zero_le _
  | x :: r, B, hn, h => by
    obtain ⟨hx, hr⟩ := List.nodup_cons.1 hn
    have hB := h x List.mem_cons_self
    have := len_le r (B.erase x) hr (fun y hy => (List.mem_erase_of_ne (fun e => hx (by rw [← e]; exact hy))).2 (h y (List.mem_cons_of_mem _ hy)))
    have h2 := List.length_erase_of_mem hB
    have h3 := List.length_pos_of_mem hB
    rw [List.length_cons]
    omega
theorem nodup_map_on {α β : Type} (f : α → β) {A : List α} (hA : A.Nodup) (h : ∀ x ∈ A, ∀ y ∈ A, f x = f y → x = y) : (A.map f).Nodup :=
  List.pairwise_map.2 (List.Pairwise.imp_of_mem (fun {a b} ha hb hab e => hab (h a ha b hb e)) hA)
theorem len_of_bij {α β : Type} [DecidableEq α] [DecidableEq β] {A : List α} {B : List β} (hA : A.Nodup) (hB : B.Nodup) (f : α → β) (g : β → α) (h1 : ∀ x ∈ A, f x ∈ B ∧ g (f x) = x) (h2 : ∀ y ∈ B, g y ∈ A ∧ f (g y) = y) : A.length = B.length := by
  have a := len_le (A.map f) B (nodup_map_on f hA fun x hx y hy e => by rw [← (h1 x hx).2, ← (h1 y hy).2, e]) (fun z hz => by
    obtain ⟨x, hx, rfl⟩ := List.mem_map.1 hz
    exact (h1 x hx).1)
  have b := len_le (B.map g) A (nodup_map_on g hB fun x hx y hy e => by rw [← (h2 x hx).2, ← (h2 y hy).2, e]) (fun z hz => by
    obtain ⟨x, hx, rfl⟩ := List.mem_map.1 hz
    exact (h2 x hx).1)
  rw [List.length_map] at a b
  omega
/-! ### all lists of some length -/
def tup {α : Type} (A : List α) : Nat → List (List α)
  | 0 => [[]]
  | k + 1 => A.flatMap fun a => (tup A k).map (a :: ·)
theorem mem_tup {α : Type} {A : List α} : ∀ {k : Nat} {l : List α}, l ∈ tup A k ↔ l.length = k ∧ ∀ x ∈ l, x ∈ A
  | 0, l => by
    constructor
    · intro h
      have : l = [] := by simpa [tup] using h
      subst this
      exact ⟨rfl, fun x hx => by cases hx⟩
    · rintro ⟨h, _⟩
      have : l = [] := List.eq_nil_of_length_eq_zero h
      subst this
      exact List.mem_singleton.2 rfl
  | k + 1, l => by
    unfold tup
    rw [List.mem_flatMap]
    constructor
    · rintro ⟨a, ha, h⟩
      obtain ⟨r, hr, rfl⟩ := List.mem_map.1 h
      obtain ⟨h1, h2⟩ := mem_tup.1 hr
      exact ⟨by rw [List.length_cons, h1], fun x hx => by
        rcases List.mem_cons.1 hx with e | e
        · rw [e]; exact ha
        · exact h2 x e⟩
    · rintro ⟨h1, h2⟩
      cases l with
      | nil => cases h1
      | cons a r => exact ⟨a, h2 a List.mem_cons_self, List.mem_map.2 ⟨r, mem_tup.2 ⟨by simpa using h1, fun x hx => h2 x (List.mem_cons_of_mem _ hx)⟩, rfl⟩⟩
theorem nodup_tup {α : Type} {A : List α} (hA : A.Nodup) : ∀ k, (tup A k).Nodup
  | 0 => by simp [tup]
  | k + 1 => by
    unfold tup
    refine List.pairwise_flatMap.2 ⟨fun a _ => nodup_map_on _ (nodup_tup hA k) (fun x _ y _ e => (List.cons.inj e).2), List.Pairwise.imp ?_ hA⟩
    intro a b hab x hx y hy e
    obtain ⟨r, _, rfl⟩ := List.mem_map.1 hx
    obtain ⟨r', _, rfl⟩ := List.mem_map.1 hy
    exact hab (List.cons.inj e).1
/-! ### labels that alternate -/
abbrev Lab := Nat × Bool
def ng (x : Lab) : Lab := (x.1, !x.2)
theorem ng_ng (x : Lab) : ng (ng x) = x := by simp [ng]
/-- Of the m kinds from i on: each at most once, with the signs one after the other, q the first. -/
def alt : Nat → Nat → Bool → (Lab → Nat) → Bool
  | 0, _, _, _ => true
  | m + 1, i, q, n => if n (i, true) + n (i, false) = 0 then alt m (i + 1) q n else if n (i, q) = 1 ∧ n (i, !q) = 0 then alt m (i + 1) (!q) n else false
theorem alt_succ (m i : Nat) (q : Bool) (n : Lab → Nat) : alt (m + 1) i q n = if n (i, true) + n (i, false) = 0 then alt m (i + 1) q n else if n (i, q) = 1 ∧ n (i, !q) = 0 then alt m (i + 1) (!q) n else false := rfl
theorem two_cases (q s : Bool) : q = s ∨ q = !s := by cases q <;> cases s <;> simp
theorem alt_congr : ∀ (m i : Nat) (q : Bool) (n n' : Lab → Nat), (∀ j s, i ≤ j → n (j, s) = n' (j, s)) → alt m i q n = alt m i q n'
  | 0, _, _, _, _, _ => rfl
  | m + 1, i, q, n, n', h => by
    unfold alt
    rw [h i true (Nat.le_refl _), h i false (Nat.le_refl _), h i q (Nat.le_refl _), h i (!q) (Nat.le_refl _), alt_congr m (i + 1) q n n' (fun j s hj => h j s (by omega)), alt_congr m (i + 1) (!q) n n' (fun j s hj => h j s (by omega))]
theorem alt_neg : ∀ (m i : Nat) (q : Bool) (n n' : Lab → Nat), (∀ j s, n' (j, s) = n (j, !s)) → alt m i q n' = alt m i (!q) n
  | 0, _, _, _, _, _ => rfl
  | m + 1, i, q, n, n', h => by
    unfold alt
    rw [h i true, h i false, h i q, h i (!q), alt_neg m (i + 1) q n n' h, alt_neg m (i + 1) (!q) n n' h]
    simp only [Bool.not_not, Bool.not_true, Bool.not_false]
    rw [Nat.add_comm]
def dec (n : Lab → Nat) (x : Lab) : Lab → Nat := fun y => if y = x then n y - 1 else n y
theorem dec_self (n : Lab → Nat) (x : Lab) : dec n x x = n x - 1 := if_pos rfl
theorem dec_ne (n : Lab → Nat) {x y : Lab} (h : y ≠ x) : dec n x y = n y := if_neg h
def G (m i : Nat) (q : Bool) (n : Lab → Nat) (x : Lab) : Bool := decide (i ≤ x.1) && alt m i q (dec n x)
theorem count_split (L : List Lab) (x : Lab) (c : Bool) (f g : Lab → Bool) (h : ∀ y ∈ L, f y = if y = x then c else g y) (hg : g x = false) : L.countP f = (if c = true then L.count x else 0) + L.countP g := by
  induction L with
  | nil => simp
  | cons y r ih =>
    have ih := ih (fun z hz => h z (List.mem_cons_of_mem _ hz))
    have hy := h y List.mem_cons_self
    rw [List.countP_cons, List.countP_cons, List.count_cons, ih, hy]
    by_cases e : y = x
    · subst e
      rw [if_pos rfl, hg]
      cases c <;> simp <;> omega
    · rw [if_neg e]
      have : (y == x) = false := beq_eq_false_iff_ne.2 e
      rw [this]
      cases c <;> simp <;> omega
def b1 (b : Bool) : Nat := if b = true then 1 else 0
theorem fan_count (L : List Lab) (hL : ∀ j, L.count (j, true) = 0 ∨ L.count (j, false) = 0) : ∀ (m i : Nat) (q : Bool), (∀ x ∈ L, x.1 < i + m) → L.countP (G m i q (fun x => L.count x)) % 2 = (b1 (alt m i true (fun x => L.count x)) + b1 (alt m i false (fun x => L.count x))) % 2
  | 0, i, q, hb => by
    have : L.countP (G 0 i q (fun x => L.count x)) = 0 := List.countP_eq_zero.2 (fun x hx => by
      have := hb x hx
      simp [G]; omega)
    rw [this]; simp [alt, b1]
  | m + 1, i, q, hb => by
    have ih := fun q' => fan_count L hL m (i + 1) q' (fun x hx => by have := hb x hx; omega)
    -- the one sign that may be there
    obtain ⟨s, hs⟩ : ∃ s, L.count (i, !s) = 0 := by
      rcases hL i with h | h
      · exact ⟨false, h⟩
      · exact ⟨true, h⟩
    have hno : ∀ y ∈ L, y.1 = i → y = (i, s) := fun y hy e => by
      obtain ⟨a, b⟩ := y
      subst e
      rcases two_cases b s with h | h
      · rw [h]
      · subst h
        have := List.count_eq_zero.1 hs
        exact absurd hy this
    have hsum : L.count (i, true) + L.count (i, false) = L.count (i, s) := by cases s <;> simp_all
    -- what an element of another kind tells
    have hoth : ∀ q' y, y.1 ≠ i → i ≤ y.1 → alt (m + 1) i q' (dec (fun x => L.count x) y) = if L.count (i, s) = 0 then alt m (i + 1) q' (dec (fun x => L.count x) y) else if L.count (i, s) = 1 ∧ q' = s then alt m (i + 1) (!q') (dec (fun x => L.count x) y) else false := fun q' y hy _ => by
      rw [alt_succ, dec_ne _ (fun e => hy (by rw [← e])), dec_ne _ (fun e => hy (by rw [← e])), dec_ne _ (fun e => hy (by rw [← e])), dec_ne _ (fun e => hy (by rw [← e])), hsum]
      by_cases h0 : L.count (i, s) = 0
      · rw [if_pos h0, if_pos h0]
      · rw [if_neg h0, if_neg h0]
        rcases two_cases q' s with e | e
        · subst e
          rw [hs]
          by_cases h1 : L.count (i, q') = 1
          · rw [if_pos ⟨h1, rfl⟩, if_pos ⟨h1, rfl⟩]
          · rw [if_neg (fun z => h1 z.1), if_neg (fun z => h1 z.1)]
        · subst e
          rw [hs, if_neg (fun z => absurd z.1 (by decide)), if_neg (fun z => absurd z.2 (by cases s <;> decide))]
    have hall : ∀ q', alt (m + 1) i q' (fun x => L.count x) = if L.count (i, s) = 0 then alt m (i + 1) q' (fun x => L.count x) else if L.count (i, s) = 1 ∧ q' = s then alt m (i + 1) (!q') (fun x => L.count x) else false := fun q' => by
      show (if L.count (i, true) + L.count (i, false) = 0 then alt m (i + 1) q' (fun x => L.count x) else if L.count (i, q') = 1 ∧ L.count (i, !q') = 0 then alt m (i + 1) (!q') (fun x => L.count x) else false) = _
      rw [hsum]
      by_cases h0 : L.count (i, s) = 0
      · rw [if_pos h0, if_pos h0]
      · rw [if_neg h0, if_neg h0]
        rcases two_cases q' s with e | e
        · subst e
          rw [hs]
          by_cases h1 : L.count (i, q') = 1
          · rw [if_pos ⟨h1, rfl⟩, if_pos ⟨h1, rfl⟩]
          · rw [if_neg (fun z => h1 z.1), if_neg (fun z => h1 z.1)]
        · subst e
          rw [hs, if_neg (fun z => absurd z.1 (by decide)), if_neg (fun z => absurd z.2 (by cases s <;> decide))]
    have hself : ∀ q', alt (m + 1) i q' (dec (fun x => L.count x) (i, s)) = if L.count (i, s) - 1 = 0 then alt m (i + 1) q' (fun x => L.count x) else if L.count (i, s) - 1 = 1 ∧ q' = s then alt m (i + 1) (!q') (fun x => L.count x) else false := fun q' => by
      have e1 : dec (fun x => L.count x) (i, s) (i, s) = L.count (i, s) - 1 := dec_self _ _
      have e2 : dec (fun x => L.count x) (i, s) (i, !s) = 0 := by rw [dec_ne _ (by simp)]; exact hs
      have e3 : dec (fun x => L.count x) (i, s) (i, true) + dec (fun x => L.count x) (i, s) (i, false) = L.count (i, s) - 1 := by cases s <;> simp_all
      have c1 : ∀ q'', alt m (i + 1) q'' (dec (fun x => L.count x) (i, s)) = alt m (i + 1) q'' (fun x => L.count x) := fun q'' => alt_congr _ _ _ _ _ (fun j s' hj => dec_ne _ (by simp; omega))
      show (if dec (fun x => L.count x) (i, s) (i, true) + dec (fun x => L.count x) (i, s) (i, false) = 0 then _ else _) = _
      rw [e3, c1, c1]
      by_cases h0 : L.count (i, s) - 1 = 0
      · rw [if_pos h0, if_pos h0]
      · rw [if_neg h0, if_neg h0]
        rcases two_cases q' s with e | e
        · subst e
          rw [e1, e2]
          by_cases h1 : L.count (i, q') - 1 = 1
          · rw [if_pos ⟨h1, rfl⟩, if_pos ⟨h1, rfl⟩]
          · rw [if_neg (fun z => h1 z.1), if_neg (fun z => h1 z.1)]
        · subst e
          rw [e2, if_neg (fun z => absurd z.1 (by decide)), if_neg (fun z => absurd z.2 (by cases s <;> decide))]
    rw [hall true, hall false]
    by_cases h0 : L.count (i, s) = 0
    · have hc : L.countP (G (m + 1) i q (fun x => L.count x)) = L.countP (G m (i + 1) q (fun x => L.count x)) := List.countP_congr (fun y hy => by
        have hne : y.1 ≠ i := fun e => List.count_eq_zero.1 h0 (by rw [← hno y hy e]; exact hy)
        unfold G
        by_cases hle : i ≤ y.1
        · rw [hoth q y hne hle, if_pos h0, decide_eq_true hle, decide_eq_true (show i + 1 ≤ y.1 by omega)]
        · rw [decide_eq_false hle, decide_eq_false (show ¬ i + 1 ≤ y.1 by omega), Bool.false_and, Bool.false_and])
      rw [hc, if_pos h0, if_pos h0]
      exact ih q
    · rw [if_neg h0, if_neg h0]
      by_cases h1 : L.count (i, s) = 1
      · by_cases hq : q = s
        · have hc := count_split L (i, s) (alt m (i + 1) q (fun x => L.count x)) (G (m + 1) i q (fun x => L.count x)) (G m (i + 1) (!q) (fun x => L.count x)) (fun y hy => by
            by_cases e : y = (i, s)
            · rw [if_pos e, e]
              unfold G
              rw [hself q, if_pos (by omega), decide_eq_true (Nat.le_refl i), Bool.true_and]
            · rw [if_neg e]
              have hne : y.1 ≠ i := fun e' => e (hno y hy e')
              unfold G
              by_cases hle : i ≤ y.1
              · rw [hoth q y hne hle, if_neg h0, if_pos ⟨h1, hq⟩, decide_eq_true hle, decide_eq_true (show i + 1 ≤ y.1 by omega)]
              · rw [decide_eq_false hle, decide_eq_false (show ¬ i + 1 ≤ y.1 by omega), Bool.false_and, Bool.false_and]) (by unfold G; rw [decide_eq_false (by simp)]; rfl)
          have := ih (!q)
          rw [hc, h1]
          subst hq
          cases q <;> simp [b1] at this ⊢ <;> omega
        · have hc := count_split L (i, s) (alt m (i + 1) q (fun x => L.count x)) (G (m + 1) i q (fun x => L.count x)) (fun _ => false) (fun y hy => by
            by_cases e : y = (i, s)
            · rw [if_pos e, e]
              unfold G
              rw [hself q, if_pos (by omega), decide_eq_true (Nat.le_refl i), Bool.true_and]
            · rw [if_neg e]
              have hne : y.1 ≠ i := fun e' => e (hno y hy e')
              unfold G
              by_cases hle : i ≤ y.1
              · rw [hoth q y hne hle, if_neg h0, if_neg (fun z => hq z.2), Bool.and_false]
              · rw [decide_eq_false hle, Bool.false_and]) rfl
          rw [hc, h1]
          have e : q = !s := by cases q <;> cases s <;> simp_all
          subst e
          cases s <;> simp [b1]
      · have hc := count_split L (i, s) (G (m + 1) i q (fun x => L.count x) (i, s)) (G (m + 1) i q (fun x => L.count x)) (fun _ => false) (fun y hy => by
            by_cases e : y = (i, s)
            · rw [if_pos e, e]
            · rw [if_neg e]
              have hne : y.1 ≠ i := fun e' => e (hno y hy e')
              unfold G
              by_cases hle : i ≤ y.1
              · rw [hoth q y hne hle, if_neg h0, if_neg (fun z => h1 z.1), Bool.and_false]
              · rw [decide_eq_false hle, Bool.false_and]) rfl
        have e0 : ∀ q', (if L.count (i, s) = 1 ∧ q' = s then alt m (i + 1) (!q') (fun x => L.count x) else false) = false := fun q' => if_neg (fun z => h1 z.1)
        have e1 : L.countP (fun _ : Lab => false) = 0 := List.countP_eq_zero.2 (fun _ _ => by simp)
        rw [hc, e0, e0, e1]
        by_cases h2 : L.count (i, s) = 2
        · rw [h2]; split <;> rfl
        · have : G (m + 1) i q (fun x => L.count x) (i, s) = false := by
            unfold G
            rw [hself q, if_neg (by omega), if_neg (fun z => h2 (by omega)), Bool.and_false]
          rw [this]; rfl
theorem alt_le : ∀ (m i : Nat) (q : Bool) (n : Lab → Nat), alt m i q n = true → ∀ j, i ≤ j → j < i + m → n (j, true) + n (j, false) ≤ 1
  | 0, i, _, _, _, j, h1, h2 => by omega
  | m + 1, i, q, n, h, j, h1, h2 => by
    unfold alt at h
    split at h
    · rename_i h0
      rcases Nat.lt_or_ge i j with h3 | h3
      · exact alt_le m (i + 1) q n h j h3 (by omega)
      · have : j = i := by omega
        subst this; omega
    · split at h
      · rename_i h0 h4
        rcases Nat.lt_or_ge i j with h3 | h3
        · exact alt_le m (i + 1) (!q) n h j h3 (by omega)
        · have : j = i := by omega
          subst this
          cases q <;> simp at h4 <;> omega
      · cases h
theorem alt_both : ∀ (m i : Nat) (n : Lab → Nat), alt m i true n = true → alt m i false n = true → ∀ j s, i ≤ j → j < i + m → n (j, s) = 0
  | 0, i, n, _, _, j, s, h1, h2 => by omega
  | m + 1, i, n, ha, hb, j, s, h1, h2 => by
    unfold alt at ha hb
    by_cases h0 : n (i, true) + n (i, false) = 0
    · rw [if_pos h0] at ha hb
      rcases Nat.lt_or_ge i j with h3 | h3
      · exact alt_both m (i + 1) n ha hb j s h3 (by omega)
      · have : j = i := by omega
        subst this
        cases s <;> omega
    · rw [if_neg h0] at ha hb
      by_cases h4 : n (i, true) = 1 ∧ n (i, !true) = 0
      · rw [if_neg (fun z => by have := z.1; have := h4.2; simp at *; omega)] at hb
        cases hb
      · rw [if_neg h4] at ha
        cases ha
end Go.Proofs.YthkdkgbcokpbaacGreatDoor.QFnNecklacesShared.Neck
namespace Go.Proofs.YthkdkgbcokpbaacGreatDoor.QFnNecklacesShared.Neck
/-! ### chains of signed places -/
def vec (l : List Lab) : Nat → Int := fun u => if (u, true) ∈ l then 1 else if (u, false) ∈ l then -1 else 0
theorem vec_congr {l l' : List Lab} (h : ∀ x, x ∈ l ↔ x ∈ l') : vec l = vec l' := by
  funext u
  unfold vec
  simp only [h]
def swp : Nat → List Lab → List Lab
  | 0, a :: b :: r => b :: a :: r
  | j + 1, a :: r => a :: swp j r
  | _, l => l
theorem swp_at : ∀ (p : List Lab) (a b : Lab) (r : List Lab), swp p.length (p ++ a :: b :: r) = p ++ b :: a :: r
  | [], _, _, _ => rfl
  | x :: p, a, b, r => by
    show x :: swp p.length (p ++ a :: b :: r) = _
    rw [swp_at p]; rfl
def flp : List Lab → List Lab
  | [] => []
  | [x] => [ng x]
  | a :: b :: r => a :: flp (b :: r)
theorem flp_at : ∀ (p : List Lab) (x : Lab), flp (p ++ [x]) = p ++ [ng x]
  | [], _ => rfl
  | [y], x => rfl
  | y :: z :: p, x => by
    show y :: flp (z :: p ++ [x]) = _
    rw [flp_at (z :: p) x]; rfl
theorem split_at {l : List Lab} {j : Nat} (h : j + 1 < l.length) : ∃ p a b r, l = p ++ a :: b :: r ∧ p.length = j := by
  refine ⟨l.take j, l[j], l[j + 1], l.drop (j + 2), ?_, by rw [List.length_take]; omega⟩
  rw [← List.drop_eq_getElem_cons (by omega), ← List.drop_eq_getElem_cons (by omega), List.take_append_drop]
theorem split_last {l : List Lab} {k : Nat} (h : l.length = k + 1) : ∃ p x, l = p ++ [x] ∧ p.length = k := by
  have hne : l ≠ [] := fun e => by rw [e] at h; cases h
  exact ⟨l.dropLast, l.getLast hne, (List.dropLast_concat_getLast hne).symm, by rw [List.length_dropLast]; omega⟩
section
variable (Λ : (Nat → Int) → Lab)
/-- The labels along a chain. -/
def lb : List Lab → List Lab → List Lab
  | _, [] => []
  | pre, a :: r => Λ (vec (pre ++ [a])) :: lb (pre ++ [a]) r
theorem lb_len : ∀ (pre r : List Lab), (lb Λ pre r).length = r.length
  | _, [] => rfl
  | pre, a :: r => by unfold lb; rw [List.length_cons, lb_len, List.length_cons]
theorem lb_append : ∀ (pre p r : List Lab), lb Λ pre (p ++ r) = lb Λ pre p ++ lb Λ (pre ++ p) r
  | pre, [], r => by rw [List.append_nil]; rfl
  | pre, a :: p, r => by
    show Λ (vec (pre ++ [a])) :: lb Λ (pre ++ [a]) (p ++ r) = _
    rw [lb_append (pre ++ [a]) p r, List.append_assoc]; rfl
theorem lb_congr : ∀ (r : List Lab) (pre pre' : List Lab), (∀ x, x ∈ pre ↔ x ∈ pre') → lb Λ pre r = lb Λ pre' r
  | [], _, _, _ => rfl
  | a :: r, pre, pre', h => by
    have h2 : ∀ x, x ∈ pre ++ [a] ↔ x ∈ pre' ++ [a] := fun x => by rw [List.mem_append, List.mem_append, h]
    unfold lb
    rw [vec_congr h2, lb_congr r _ _ h2]
theorem lb_mem : ∀ (r pre : List Lab) (y : Lab), y ∈ lb Λ pre r → ∃ q r', q ≠ [] ∧ r = q ++ r' ∧ y = Λ (vec (pre ++ q))
  | [], _, y, h => by cases h
  | a :: r, pre, y, h => by
    unfold lb at h
    rcases List.mem_cons.1 h with e | e
    · exact ⟨[a], r, by simp, rfl, e⟩
    · obtain ⟨q, r', _, rfl, e2⟩ := lb_mem r _ y e
      exact ⟨a :: q, r', by simp, rfl, by rw [e2, List.append_assoc]; rfl⟩
theorem facet_swap (p : List Lab) (a b : Lab) (r : List Lab) : (lb Λ [] (p ++ a :: b :: r)).eraseIdx p.length = (lb Λ [] (p ++ b :: a :: r)).eraseIdx p.length := by
  have h : ∀ (a b : Lab), (lb Λ [] (p ++ a :: b :: r)).eraseIdx p.length = lb Λ [] p ++ (Λ (vec (p ++ [a] ++ [b])) :: lb Λ (p ++ [a] ++ [b]) r) := fun a b => by
    rw [lb_append, List.eraseIdx_append_of_length_le (by rw [lb_len]; exact Nat.le_refl _), lb_len, Nat.sub_self]; rfl
  have hm : ∀ x, x ∈ p ++ [a] ++ [b] ↔ x ∈ p ++ [b] ++ [a] := fun x => by simp; constructor <;> rintro (h | h | h) <;> simp [h]
  rw [h, h, vec_congr hm, lb_congr Λ r _ _ hm]
theorem facet_last (p : List Lab) (x : Lab) : (lb Λ [] (p ++ [x])).eraseIdx p.length = lb Λ [] p := by
  rw [lb_append, List.eraseIdx_append_of_length_le (by rw [lb_len]; exact Nat.le_refl _), lb_len, Nat.sub_self]
  show lb Λ [] p ++ [] = _
  rw [List.append_nil]
/-- Signed orders of the places below k. -/
def pool (k : Nat) : List Lab := (List.range k).flatMap fun i => [(i, true), (i, false)]
theorem mem_pool {k : Nat} {x : Lab} : x ∈ pool k ↔ x.1 < k := by
  obtain ⟨i, s⟩ := x
  unfold pool
  rw [List.mem_flatMap]
  constructor
  · rintro ⟨a, ha, h⟩
    have := List.mem_range.1 ha
    simp at h
    rcases h with h | h <;> (show i < k; omega)
  · intro h
    exact ⟨i, List.mem_range.2 h, by cases s <;> simp⟩
theorem nodup_pool (k : Nat) : (pool k).Nodup := by
  refine List.pairwise_flatMap.2 ⟨fun a _ => by simp, List.Pairwise.imp ?_ List.nodup_range⟩
  intro a b hab x hx y hy e
  simp at hx hy
  rcases hx with hx | hx <;> rcases hy with hy | hy <;> rw [hx, hy] at e <;> exact hab (by have := congrArg Prod.fst e; exact this)
structure SP (k : Nat) (l : List Lab) : Prop where
  len : l.length = k
  nodup : (l.map Prod.fst).Nodup
  lt : ∀ x ∈ l, x.1 < k
/-- .. the greatest place with a plus. -/
structure HP (k : Nat) (l : List Lab) : Prop where
  sp : SP k l
  up : k = 0 ∨ (k - 1, true) ∈ l
instance (k : Nat) (l : List Lab) : Decidable (HP k l) := decidable_of_iff (((l.length = k ∧ (l.map Prod.fst).Nodup) ∧ ∀ x ∈ l, x.1 < k) ∧ (k = 0 ∨ (k - 1, true) ∈ l)) ⟨fun h => ⟨⟨h.1.1.1, h.1.1.2, h.1.2⟩, h.2⟩, fun h => ⟨⟨⟨h.sp.len, h.sp.nodup⟩, h.sp.lt⟩, h.up⟩⟩
def Hs (k : Nat) : List (List Lab) := (tup (pool k) k).filter fun l => decide (HP k l)
theorem mem_Hs {k : Nat} {l : List Lab} : l ∈ Hs k ↔ HP k l := by
  unfold Hs
  rw [List.mem_filter, decide_eq_true_eq]
  exact ⟨fun h => h.2, fun h => ⟨mem_tup.2 ⟨h.sp.len, fun x hx => mem_pool.2 (h.sp.lt x hx)⟩, h⟩⟩
theorem nodup_Hs (k : Nat) : (Hs k).Nodup := List.Pairwise.filter _ (nodup_tup (nodup_pool k) k)
theorem SP.perm {k : Nat} {l l' : List Lab} (h : SP k l) (e : List.Perm l l') : SP k l' :=
  ⟨by rw [← e.length_eq, h.len], (e.map Prod.fst).nodup_iff.1 h.nodup, fun x hx => h.lt x (e.mem_iff.2 hx)⟩
theorem SP.one {k : Nat} {l : List Lab} (h : SP k l) {u : Nat} (ha : (u, true) ∈ l) (hb : (u, false) ∈ l) : False := by
  have := h.nodup
  have h2 : ∀ l : List Lab, (l.map Prod.fst).Nodup → (u, true) ∈ l → (u, false) ∈ l → False := fun l => by
    induction l with
    | nil => intro _ h; cases h
    | cons y r ih =>
      intro hn h1 h2
      rw [List.map_cons, List.nodup_cons] at hn
      rcases List.mem_cons.1 h1 with e1 | e1 <;> rcases List.mem_cons.1 h2 with e2 | e2
      · rw [← e1] at e2; cases e2
      · exact hn.1 (List.mem_map.2 ⟨_, e2, by rw [← e1]⟩)
      · exact hn.1 (List.mem_map.2 ⟨_, e1, by rw [← e2]⟩)
      · exact ih hn.2 e1 e2
  exact h2 l this ha hb
theorem ng_mem {l : List Lab} {u : Nat} {s : Bool} : (u, s) ∈ l.map ng ↔ (u, !s) ∈ l := by
  rw [List.mem_map]
  constructor
  · rintro ⟨⟨a, b⟩, h, e⟩
    unfold ng at e
    injection e with e1 e2
    subst e1 e2
    rw [Bool.not_not]; exact h
  · intro h
    exact ⟨(u, !s), h, by simp [ng]⟩
theorem SP.ng {k : Nat} {l : List Lab} (h : SP k l) : SP k (l.map ng) :=
  ⟨by rw [List.length_map, h.len], by rw [List.map_map]; exact h.nodup, fun x hx => by
    obtain ⟨y, hy, rfl⟩ := List.mem_map.1 hx
    exact h.lt y hy⟩
theorem ngng (l : List Lab) : (l.map ng).map ng = l := by
  rw [List.map_map]
  have : (ng ∘ ng) = id := funext ng_ng
  rw [this, List.map_id]
/-- The labels alternate, q first. -/
def al (B : Nat) (q : Bool) (L : List Lab) : Bool := alt B 0 q (fun x => L.count x)
theorem al_ng (B : Nat) (q : Bool) (L : List Lab) : al B q (L.map ng) = al B (!q) L := by
  unfold al
  refine alt_neg _ _ _ _ _ (fun j s => ?_)
  show (L.map ng).count (j, s) = L.count (j, !s)
  have hinj : ∀ x y : Lab, ng x = ng y → x = y := fun x y e => by rw [← ng_ng x, e, ng_ng]
  rw [show ((j, s) : Lab) = ng (j, !s) by simp [ng], List.count_eq_countP, List.countP_map, List.count_eq_countP]
  refine List.countP_congr (fun x _ => ?_)
  simp only [Function.comp, beq_iff_eq]
  exact ⟨fun e => hinj _ _ e, fun e => by rw [e]⟩
structure Good (n B : Nat) : Prop where
  col : ∀ k l, k ≤ n → SP k l → ∀ q r, l = q ++ r → q ≠ [] → (Λ (vec q)).1 < B
  neg : ∀ k l, k ≤ n → SP k l → ∀ q r, l = q ++ r → q ≠ [] → Λ (vec (q.map ng)) = ng (Λ (vec q))
  comp : ∀ k l, k ≤ n → SP k l → ∀ q r r', l = q ++ r ++ r' → q ≠ [] → Λ (vec (q ++ r)) ≠ ng (Λ (vec q))
variable {n B : Nat} {Λ : (Nat → Int) → Lab} (g : Good Λ n B)
include g
theorem lb_ng {k : Nat} (hk : k ≤ n) : ∀ (r pre : List Lab), SP k (pre ++ r) → lb Λ (pre.map ng) (r.map ng) = (lb Λ pre r).map ng
  | [], _, _ => rfl
  | a :: r, pre, h => by
    have e : pre ++ a :: r = (pre ++ [a]) ++ r := by rw [List.append_assoc]; rfl
    have e2 : pre.map ng ++ [ng a] = (pre ++ [a]).map ng := by rw [List.map_append]; rfl
    show Λ (vec (pre.map ng ++ [ng a])) :: lb Λ (pre.map ng ++ [ng a]) (r.map ng) = ng (Λ (vec (pre ++ [a]))) :: (lb Λ (pre ++ [a]) r).map ng
    rw [e2, g.neg k _ hk h (pre ++ [a]) r e (by simp), lb_ng hk r (pre ++ [a]) (e ▸ h)]
theorem lb_lt {k : Nat} (hk : k ≤ n) {l : List Lab} (h : SP k l) : ∀ x ∈ lb Λ [] l, x.1 < B := fun x hx => by
  obtain ⟨q, r, hq, e, rfl⟩ := lb_mem Λ l [] x hx
  exact g.col k l hk h q r e hq
theorem lb_comp {k : Nat} (hk : k ≤ n) {l : List Lab} (h : SP k l) : ∀ j, (lb Λ [] l).count (j, true) = 0 ∨ (lb Λ [] l).count (j, false) = 0 := fun j => by
  rcases Nat.eq_zero_or_pos ((lb Λ [] l).count (j, true)) with h1 | h1
  · exact .inl h1
  rcases Nat.eq_zero_or_pos ((lb Λ [] l).count (j, false)) with h2 | h2
  · exact .inr h2
  exfalso
  obtain ⟨q, r, hq, e, e1⟩ := lb_mem Λ l [] _ (List.count_pos_iff.1 h1)
  obtain ⟨q', r', hq', e', e1'⟩ := lb_mem Λ l [] _ (List.count_pos_iff.1 h2)
  rw [List.nil_append] at e1 e1'
  rcases List.append_eq_append_iff.1 (e.symm.trans e') with ⟨t, h3, h4⟩ | ⟨t, h3, h4⟩
  · subst h3
    exact g.comp k l hk h q t r' (by rw [e, h4, List.append_assoc]) hq (by rw [← e1', ← e1]; rfl)
  · subst h3
    exact g.comp k l hk h q' t r (by rw [e', h4, List.append_assoc]) hq' (by rw [← e1', ← e1]; rfl)
/-- The doors of a chain: the labels without the j-th alternate. -/
theorem doors_count {k : Nat} (hk : k ≤ n) {l : List Lab} (h : SP k l) : ((List.range k).countP fun j => al B true ((lb Λ [] l).eraseIdx j)) % 2 = (b1 (al B true (lb Λ [] l)) + b1 (al B false (lb Λ [] l))) % 2 := by
  have h1 := fan_count (lb Λ [] l) (lb_comp g hk h) B 0 true (fun x hx => by have := lb_lt g hk h x hx; omega)
  have hl : (lb Λ [] l).length = k := by rw [lb_len, h.len]
  have h2 : ((List.range k).countP fun j => al B true ((lb Λ [] l).eraseIdx j)) = (lb Λ [] l).countP (G B 0 true (fun x => (lb Λ [] l).count x)) := by
    generalize lb Λ [] l = L at hl
    have e : L = (List.range k).map (fun j => L.getD j (0, true)) := by
      apply List.ext_getElem
      · simp [hl]
      · intro i h1 h2; simp [List.getElem?_eq_getElem h1]
    conv => rhs; rw [show L.countP (G B 0 true (fun x => L.count x)) = ((List.range k).map (fun j => L.getD j (0, true))).countP (G B 0 true (fun x => L.count x)) from congrArg _ e]
    rw [List.countP_map]
    refine List.countP_congr (fun j hj => ?_)
    have hj := List.mem_range.1 hj
    have hjl : j < L.length := by omega
    have hcnt : (fun x => (L.eraseIdx j).count x) = dec (fun x => L.count x) (L.getD j (0, true)) := by
      funext x
      have e1 : L = L.take j ++ L[j] :: L.drop (j + 1) := by rw [← List.drop_eq_getElem_cons hjl, List.take_append_drop]
      have e2 : L.eraseIdx j = L.take j ++ L.drop (j + 1) := List.eraseIdx_eq_take_drop_succ L j
      have e3 : L.getD j (0, true) = L[j] := by rw [List.getD_eq_getElem?_getD, List.getElem?_eq_getElem hjl]; rfl
      have e4 : L.count x = (L.take j).count x + ((L.drop (j + 1)).count x + if L[j] == x then 1 else 0) := by
        conv => lhs; rw [e1]
        rw [List.count_append, List.count_cons]
      rw [e3, e2, List.count_append]
      unfold dec
      by_cases hx : x = L[j]
      · rw [if_pos hx]
        show _ = L.count x - 1
        rw [e4, if_pos (beq_iff_eq.2 hx.symm)]; omega
      · rw [if_neg hx]
        show _ = L.count x
        rw [e4, if_neg (fun z => hx (beq_iff_eq.1 z).symm)]; omega
    simp only [Function.comp, G, al, hcnt, Nat.zero_le, decide_true, Bool.true_and]
  rw [h2]
  exact h1
end
end Go.Proofs.YthkdkgbcokpbaacGreatDoor.QFnNecklacesShared.Neck
namespace Go.Proofs.YthkdkgbcokpbaacGreatDoor.QFnNecklacesShared.Neck
section
variable {Λ : (Nat → Int) → Lab} {n B : Nat}
def alL (Λ : (Nat → Int) → Lab) (B : Nat) (q : Bool) (l : List Lab) : Bool := al B q (lb Λ [] l)
/-- The chains whose labels alternate. -/
def As (Λ : (Nat → Int) → Lab) (B k : Nat) : List (List Lab) := (Hs k).filter fun l => alL Λ B true l || alL Λ B false l
def okd (Λ : (Nat → Int) → Lab) (B : Nat) (l : List Lab) (j : Nat) : Bool := al B true ((lb Λ [] l).eraseIdx j)
def Ds (Λ : (Nat → Int) → Lab) (B k : Nat) : List (List Lab × Nat) := (Hs k).flatMap fun l => ((List.range k).filter (okd Λ B l)).map (l, ·)
theorem mem_Ds {k : Nat} {x : List Lab × Nat} : x ∈ Ds Λ B k ↔ HP k x.1 ∧ x.2 < k ∧ okd Λ B x.1 x.2 = true := by
  unfold Ds
  rw [List.mem_flatMap]
  constructor
  · rintro ⟨l, hl, h⟩
    obtain ⟨j, hj, rfl⟩ := List.mem_map.1 h
    obtain ⟨h1, h2⟩ := List.mem_filter.1 hj
    exact ⟨mem_Hs.1 hl, List.mem_range.1 h1, h2⟩
  · rintro ⟨h1, h2, h3⟩
    exact ⟨x.1, mem_Hs.2 h1, List.mem_map.2 ⟨x.2, List.mem_filter.2 ⟨List.mem_range.2 h2, h3⟩, rfl⟩⟩
theorem nodup_Ds (k : Nat) : (Ds Λ B k).Nodup := by
  refine List.pairwise_flatMap.2 ⟨fun l _ => nodup_map_on _ (List.Pairwise.filter _ List.nodup_range) (fun x _ y _ e => (Prod.mk.inj e).2), List.Pairwise.imp ?_ (nodup_Hs k)⟩
  intro a b hab x hx y hy e
  obtain ⟨j, _, rfl⟩ := List.mem_map.1 hx
  obtain ⟨j', _, rfl⟩ := List.mem_map.1 hy
  exact hab (Prod.mk.inj e).1
theorem al_both {L : List Lab} (hb : ∀ x ∈ L, x.1 < B) (h1 : al B true L = true) (h2 : al B false L = true) : L = [] := by
  cases L with
  | nil => rfl
  | cons x r =>
    exfalso
    have := alt_both B 0 _ h1 h2 x.1 x.2 (Nat.zero_le _) (by have := hb x List.mem_cons_self; omega)
    exact List.count_eq_zero.1 this List.mem_cons_self
theorem Ds_len (g : Good Λ n B) {k : Nat} (hk : k + 1 ≤ n) : (Ds Λ B (k + 1)).length % 2 = (As Λ B (k + 1)).length % 2 := by
  unfold Ds As
  have : ∀ M : List (List Lab), (∀ l ∈ M, HP (k + 1) l) → (M.flatMap fun l => ((List.range (k + 1)).filter (okd Λ B l)).map (l, ·)).length % 2 = (M.filter fun l => alL Λ B true l || alL Λ B false l).length % 2 := fun M => by
    induction M with
    | nil => intro _; rfl
    | cons l r ih =>
      intro h
      have ih := ih (fun x hx => h x (List.mem_cons_of_mem _ hx))
      have hl := h l List.mem_cons_self
      have hd := doors_count g hk hl.sp
      have hne : lb Λ [] l ≠ [] := fun e => by have := congrArg List.length e; rw [lb_len, hl.sp.len] at this; cases this
      have hx : ¬ (al B true (lb Λ [] l) = true ∧ al B false (lb Λ [] l) = true) := fun z => hne (al_both (lb_lt g hk hl.sp) z.1 z.2)
      rw [List.flatMap_cons, List.length_append, List.length_map, ← List.countP_eq_length_filter, List.filter_cons]
      have e : (List.countP (okd Λ B l) (List.range (k + 1))) % 2 = b1 (alL Λ B true l || alL Λ B false l) % 2 := by
        rw [show (List.countP (okd Λ B l) (List.range (k + 1))) % 2 = _ from hd]
        unfold alL
        cases h1 : al B true (lb Λ [] l) <;> cases h2 : al B false (lb Λ [] l) <;> simp_all [b1]
      cases hc : (alL Λ B true l || alL Λ B false l) with
      | true => rw [hc] at e; simp only [b1, if_true] at e; rw [if_pos rfl, List.length_cons]; omega
      | false => rw [hc] at e; simp [b1] at e; rw [if_neg (by decide)]; omega
  exact this _ (fun l hl => mem_Hs.1 hl)
/-- A door of the border: the last place alone, with its plus. -/
def bd (k : Nat) (x : List Lab × Nat) : Bool := decide (x.2 = k) && decide (x.1.getLast? = some (k, true))
def piv (k : Nat) (x : List Lab × Nat) : List Lab × Nat := if x.2 < k then (swp x.2 x.1, x.2) else (flp x.1, x.2)
theorem inner_even {k : Nat} : ((Ds Λ B (k + 1)).filter fun x => !bd k x).length % 2 = 0 := by
  refine even_invol (piv k) _ _ rfl (List.Pairwise.filter _ (nodup_Ds (k + 1))) (fun x hx => ?_)
  obtain ⟨hx1, hx2⟩ := List.mem_filter.1 hx
  obtain ⟨hH, hj, hok⟩ := mem_Ds.1 hx1
  obtain ⟨l, j⟩ := x
  by_cases hlt : j < k
  · obtain ⟨p, a, b, r, rfl, rfl⟩ := split_at (l := l) (j := j) (by rw [hH.sp.len]; omega)
    have hperm : List.Perm (p ++ a :: b :: r) (p ++ b :: a :: r) := List.Perm.append_left p (List.Perm.swap b a r)
    have e : piv k (p ++ a :: b :: r, p.length) = (p ++ b :: a :: r, p.length) := by unfold piv; rw [if_pos hlt]; show (swp _ _, _) = _; rw [swp_at]
    have e2 : piv k (p ++ b :: a :: r, p.length) = (p ++ a :: b :: r, p.length) := by unfold piv; rw [if_pos hlt]; show (swp _ _, _) = _; rw [swp_at]
    rw [e, e2]
    refine ⟨List.mem_filter.2 ⟨mem_Ds.2 ⟨⟨hH.sp.perm hperm, hH.up.imp id (hperm.mem_iff.1)⟩, hj, ?_⟩, ?_⟩, rfl, fun z => ?_⟩
    · unfold okd at hok ⊢
      rw [← facet_swap]; exact hok
    · unfold bd
      rw [decide_eq_false (show ¬ p.length = k by omega)]; rfl
    · have h1 := List.append_cancel_left (Prod.mk.inj z).1
      have hn := hH.sp.nodup
      injection h1 with h2 _
      subst h2
      rw [List.map_append, List.map_cons, List.map_cons] at hn
      have := (List.nodup_append.1 hn).2.1
      rw [List.nodup_cons] at this
      exact this.1 List.mem_cons_self
  · have hjk : j = k := by have : j < k + 1 := hj; omega
    subst hjk
    obtain ⟨p, ⟨c, s⟩, rfl, hp⟩ := split_last hH.sp.len
    have e : ∀ s, piv j (p ++ [(c, s)], j) = (p ++ [(c, !s)], j) := fun s => by unfold piv; rw [if_neg hlt]; show (flp _, _) = _; rw [flp_at]; rfl
    have hbd : ∀ s, bd j (p ++ [(c, s)], j) = decide (c = j ∧ s = true) := fun s => by
      unfold bd
      rw [decide_eq_true rfl, Bool.true_and]
      have : (p ++ [(c, s)]).getLast? = some (c, s) := by simp
      rw [this]
      simp
    rw [e, e, Bool.not_not]
    have hcj : c ≠ j := fun ec => by
      subst ec
      cases s with
      | true => rw [hbd] at hx2; simp at hx2
      | false =>
        rcases hH.up with h0 | h0
        · omega
        · rw [Nat.add_sub_cancel] at h0
          exact hH.sp.one h0 (by simp)
    have hsp : SP (j + 1) (p ++ [(c, !s)]) := ⟨by rw [List.length_append, hp]; rfl, by have := hH.sp.nodup; rw [List.map_append] at this ⊢; exact this, fun x hx => by
      rcases List.mem_append.1 hx with h | h
      · exact hH.sp.lt x (List.mem_append_left _ h)
      · have : x = (c, !s) := by simpa using h
        rw [this]; exact hH.sp.lt (c, s) (by simp)⟩
    refine ⟨List.mem_filter.2 ⟨mem_Ds.2 ⟨⟨hsp, ?_⟩, hj, ?_⟩, ?_⟩, rfl, fun z => ?_⟩
    · refine hH.up.imp id (fun h => ?_)
      rw [Nat.add_sub_cancel] at h ⊢
      rcases List.mem_append.1 h with h | h
      · exact List.mem_append_left _ h
      · have : (j, true) = (c, s) := by simpa using h
        exact absurd (congrArg Prod.fst this).symm hcj
    · unfold okd at hok ⊢
      rw [← hp] at hok ⊢
      rw [facet_last] at hok ⊢
      exact hok
    · rw [hbd, decide_eq_false (fun z => hcj z.1)]; rfl
    · have h1 := List.append_cancel_left (Prod.mk.inj z).1
      injection h1 with h2 _
      injection h2 with _ h3
      cases s <;> cases h3
def toA (k : Nat) (x : List Lab × Nat) : List Lab := if k = 0 ∨ (k - 1, true) ∈ x.1.dropLast then x.1.dropLast else x.1.dropLast.map ng
def toD (Λ : (Nat → Int) → Lab) (B k : Nat) (l : List Lab) : List Lab × Nat := if alL Λ B true l = true then (l ++ [(k, true)], k) else (l.map ng ++ [(k, true)], k)
theorem HP.snoc {k : Nat} {l : List Lab} (h : SP k l) : HP (k + 1) (l ++ [(k, true)]) := by
  refine ⟨⟨by rw [List.length_append, h.len]; rfl, ?_, fun x hx => ?_⟩, .inr (by simp)⟩
  · rw [List.map_append]
    refine List.nodup_append.2 ⟨h.nodup, by simp, fun a ha b hb e => ?_⟩
    obtain ⟨y, hy, rfl⟩ := List.mem_map.1 ha
    have := h.lt y hy
    have hb : b = k := by simpa using hb
    omega
  · rcases List.mem_append.1 hx with h1 | h1
    · have := h.lt x h1; omega
    · have : x = (k, true) := by simpa using h1
      rw [this]; exact Nat.lt_succ_self k
theorem okd_snoc (p : List Lab) (x : Lab) {k : Nat} (h : p.length = k) : okd Λ B (p ++ [x]) k = alL Λ B true p := by
  unfold okd alL
  rw [← h, facet_last]
theorem alL_ng (g : Good Λ n B) {k : Nat} (hk : k ≤ n) {l : List Lab} (h : SP k l) (q : Bool) : alL Λ B q (l.map ng) = alL Λ B (!q) l := by
  have := lb_ng g hk l [] h
  unfold alL
  rw [show lb Λ [] (l.map ng) = (lb Λ [] l).map ng from this, al_ng]
theorem border_len (g : Good Λ n B) {k : Nat} (hk : k + 1 ≤ n) : ((Ds Λ B (k + 1)).filter fun x => bd k x).length = (As Λ B k).length := by
  refine len_of_bij (List.Pairwise.filter _ (nodup_Ds (k + 1))) (List.Pairwise.filter _ (nodup_Hs k)) (toA k) (toD Λ B k) (fun x hx => ?_) (fun l hl => ?_)
  · obtain ⟨hx1, hx2⟩ := List.mem_filter.1 hx
    obtain ⟨hH, hj, hok⟩ := mem_Ds.1 hx1
    obtain ⟨l, j⟩ := x
    unfold bd at hx2
    obtain ⟨hj1, hlast⟩ := Bool.and_eq_true_iff.1 hx2
    have hj1 : j = k := of_decide_eq_true hj1
    subst hj1
    obtain ⟨p, x, rfl, hp⟩ := split_last hH.sp.len
    have hx : x = (j, true) := by
      have := of_decide_eq_true hlast
      simpa using this
    subst hx
    have hok2 : alL Λ B true p = true := by
      have := okd_snoc (Λ := Λ) (B := B) p (j, true) hp
      rw [← this]; exact hok
    have hsp : SP j p := ⟨hp, by have := hH.sp.nodup; rw [List.map_append] at this; exact (List.nodup_append.1 this).1, fun y hy => by
      have h1 := hH.sp.lt y (List.mem_append_left _ hy)
      have hn := hH.sp.nodup
      rw [List.map_append] at hn
      have h2 := (List.nodup_append.1 hn).2.2 y.1 (List.mem_map.2 ⟨y, hy, rfl⟩) j (by simp)
      omega⟩
    have ed : (p ++ [(j, true)]).dropLast = p := by simp
    unfold toA
    simp only [ed]
    by_cases hc : j = 0 ∨ (j - 1, true) ∈ p
    · rw [if_pos hc]
      refine ⟨List.mem_filter.2 ⟨mem_Hs.2 ⟨hsp, hc⟩, by rw [hok2]; rfl⟩, ?_⟩
      unfold toD
      rw [if_pos hok2]
    · rw [if_neg hc]
      have hj0 : j ≠ 0 := fun e => hc (.inl e)
      have hmem : (j - 1, false) ∈ p := by
        -- the place j - 1 is there
        have hall : ∀ i, i < j → i ∈ p.map Prod.fst := fun i hi => by
          have h1 := len_le (List.range j) (p.map Prod.fst)
          refine Classical.byContradiction fun hno => ?_
          have h2 := len_le (p.map Prod.fst) ((List.range j).erase i) hsp.nodup (fun z hz => by
            obtain ⟨y, hy, rfl⟩ := List.mem_map.1 hz
            exact (List.mem_erase_of_ne (fun e => hno (by rw [← e]; exact List.mem_map.2 ⟨y, hy, rfl⟩))).2 (List.mem_range.2 (hsp.lt y hy)))
          rw [List.length_map, List.length_erase_of_mem (List.mem_range.2 hi), List.length_range, hsp.len] at h2
          omega
        obtain ⟨⟨a, s⟩, ha, e⟩ := List.mem_map.1 (hall (j - 1) (by omega))
        have e : a = j - 1 := e
        subst e
        cases s with
        | true => exact absurd (.inr ha) hc
        | false => exact ha
      have hnt : alL Λ B true (p.map ng) = false := by
        rw [alL_ng g (by omega) hsp]
        cases h2 : alL Λ B (!true) p with
        | false => rfl
        | true =>
          have := al_both (lb_lt g (by omega) hsp) hok2 h2
          have h3 := congrArg List.length this
          rw [lb_len, hp] at h3
          exact absurd h3 hj0
      refine ⟨List.mem_filter.2 ⟨mem_Hs.2 ⟨hsp.ng, .inr (ng_mem.2 hmem)⟩, ?_⟩, ?_⟩
      · have : alL Λ B false (p.map ng) = true := by rw [alL_ng g (by omega) hsp]; exact hok2
        rw [this, Bool.or_true]
      · unfold toD
        rw [if_neg (by rw [hnt]; decide), ngng]
  · obtain ⟨h1, h2⟩ := List.mem_filter.1 hl
    have hH := mem_Hs.1 h1
    unfold toD
    by_cases hc : alL Λ B true l = true
    · rw [if_pos hc]
      refine ⟨List.mem_filter.2 ⟨mem_Ds.2 ⟨HP.snoc hH.sp, Nat.lt_succ_self k, by rw [okd_snoc _ _ hH.sp.len]; exact hc⟩, by unfold bd; simp⟩, ?_⟩
      unfold toA
      have ed : (l ++ [(k, true)]).dropLast = l := by simp
      simp only [ed]
      rw [if_pos hH.up]
    · rw [if_neg hc]
      have hf : alL Λ B false l = true := by
        cases h3 : alL Λ B true l with
        | true => exact absurd h3 hc
        | false => rw [h3, Bool.false_or] at h2; exact h2
      have hk0 : k ≠ 0 := fun e => by
        subst e
        have : l = [] := List.eq_nil_of_length_eq_zero hH.sp.len
        subst this
        apply hc
        have : ∀ (m i : Nat) (q : Bool), alt m i q (fun x => ([] : List Lab).count x) = true := fun m => by
          induction m with
          | zero => intro i q; rfl
          | succ m ih => intro i q; rw [alt_succ, if_pos (by simp)]; exact ih (i + 1) q
        exact this B 0 true
      refine ⟨List.mem_filter.2 ⟨mem_Ds.2 ⟨HP.snoc hH.sp.ng, Nat.lt_succ_self k, by rw [okd_snoc _ _ hH.sp.ng.len, alL_ng g (by omega) hH.sp]; exact hf⟩, by unfold bd; simp⟩, ?_⟩
      unfold toA
      have ed : (l.map ng ++ [(k, true)]).dropLast = l.map ng := by simp
      simp only [ed]
      rw [if_neg, ngng]
      rintro (h3 | h3)
      · exact hk0 h3
      · rcases hH.up with h4 | h4
        · exact hk0 h4
        · exact hH.sp.one h4 (ng_mem.1 h3)
theorem As_odd (g : Good Λ n B) : ∀ k, k ≤ n → (As Λ B k).length % 2 = 1
  | 0, _ => by
    have hH : Hs 0 = [[]] := by unfold Hs; simp [tup]; exact ⟨⟨rfl, by simp, fun x hx => by cases hx⟩, .inl rfl⟩
    have : ∀ (m i : Nat) (q : Bool), alt m i q (fun x => ([] : List Lab).count x) = true := fun m => by
      induction m with
      | zero => intro i q; rfl
      | succ m ih => intro i q; rw [alt_succ, if_pos (by simp)]; exact ih (i + 1) q
    have e : alL Λ B true [] = true := this B 0 true
    unfold As
    rw [hH, List.filter_cons, e]
    rfl
  | k + 1, hk => by
    have ih := As_odd g k (by omega)
    have h1 := Ds_len g hk
    have h2 := inner_even (Λ := Λ) (B := B) (k := k)
    have h3 := border_len g hk
    have h4 := List.length_eq_countP_add_countP (bd k) (l := Ds Λ B (k + 1))
    rw [List.countP_eq_length_filter, List.countP_eq_length_filter] at h4
    have h5 : (Ds Λ B (k + 1)).filter (fun a => decide ¬ bd k a = true) = (Ds Λ B (k + 1)).filter (fun x => !bd k x) := List.filter_congr (fun x _ => by cases bd k x <;> rfl)
    rw [h5] at h4
    have h6 : (Ds Λ B (k + 1)).filter (bd k) = (Ds Λ B (k + 1)).filter (fun x => bd k x) := rfl
    rw [h6, h3] at h4
    omega
/-- Fan's lemma: labels of signed places need as many kinds as there are places. -/
theorem fan (g : Good Λ n B) (C : List Nat) (hC : ∀ k l, k ≤ n → SP k l → ∀ q r, l = q ++ r → q ≠ [] → (Λ (vec q)).1 ∈ C) : n ≤ C.length := by
  have h := As_odd g n (Nat.le_refl n)
  have hpos : 0 < (As Λ B n).length := by omega
  obtain ⟨l, hl⟩ := List.exists_mem_of_length_pos hpos
  obtain ⟨h1, h2⟩ := List.mem_filter.1 hl
  have hH := mem_Hs.1 h1
  have hle : ∀ j, (lb Λ [] l).count (j, true) + (lb Λ [] l).count (j, false) ≤ 1 := fun j => by
    rcases Nat.lt_or_ge j B with hj | hj
    · rcases Bool.or_eq_true_iff.1 h2 with h3 | h3
      · exact alt_le B 0 _ _ h3 j (Nat.zero_le _) (by omega)
      · exact alt_le B 0 _ _ h3 j (Nat.zero_le _) (by omega)
    · have hz : ∀ s, (lb Λ [] l).count (j, s) = 0 := fun s => List.count_eq_zero.2 (fun hm => by have := lb_lt g (Nat.le_refl n) hH.sp _ hm; omega)
      rw [hz, hz]; omega
  have hn : ((lb Λ [] l).map Prod.fst).Nodup := List.nodup_iff_count.2 (fun j => by
    have := hle j
    have e : ∀ L : List Lab, (L.map Prod.fst).count j = L.count (j, true) + L.count (j, false) := fun L => by
      induction L with
      | nil => rfl
      | cons x r ih =>
        obtain ⟨a, s⟩ := x
        rw [List.map_cons, List.count_cons, List.count_cons, List.count_cons, ih]
        by_cases ha : a = j
        · subst ha; cases s <;> simp <;> omega
        · cases s <;> simp [ha]
    rw [e]; exact this)
  have := len_le ((lb Λ [] l).map Prod.fst) C hn (fun x hx => by
    obtain ⟨y, hy, rfl⟩ := List.mem_map.1 hx
    obtain ⟨q, r, hq, e, rfl⟩ := lb_mem Λ l [] y hy
    exact hC n l (Nat.le_refl n) hH.sp q r e hq)
  rw [List.length_map, lb_len, hH.sp.len] at this
  exact this
end
end Go.Proofs.YthkdkgbcokpbaacGreatDoor.QFnNecklacesShared.Neck
namespace Go.Proofs.YthkdkgbcokpbaacGreatDoor.QFnNecklacesShared.Neck
/-! ### how often signs alternate -/
/-- How often the signs of the d places from u on alternate, b the sign ahead (0 at the start). -/
def ac (x : Nat → Int) : Nat → Nat → Int → Nat
  | 0, _, _ => 0
  | d + 1, u, b => if x u = 0 ∨ x u = b then ac x d (u + 1) b else ac x d (u + 1) (x u) + 1
/-- The first sign. -/
def fs (x : Nat → Int) : Nat → Nat → Int
  | 0, _ => 0
  | d + 1, u => if x u = 0 then fs x d (u + 1) else x u
theorem ac_lip (x : Nat → Int) : ∀ d u b c, ac x d u b ≤ ac x d u c + 1
  | 0, _, _, _ => Nat.zero_le _
  | d + 1, u, b, c => by
    unfold ac
    have h1 := ac_lip x d (u + 1) b c
    have h2 := ac_lip x d (u + 1) b (x u)
    have h3 := ac_lip x d (u + 1) (x u) c
    by_cases h0 : x u = 0
    · rw [if_pos (.inl h0), if_pos (.inl h0)]; exact h1
    · by_cases hb : x u = b <;> by_cases hc : x u = c
      · rw [if_pos (.inr hb), if_pos (.inr hc)]; exact h1
      · rw [if_pos (.inr hb), if_neg (by rintro (h | h); exact h0 h; exact hc h)]; omega
      · rw [if_neg (by rintro (h | h); exact h0 h; exact hb h), if_pos (.inr hc), hc]; exact Nat.le_refl _
      · rw [if_neg (by rintro (h | h); exact h0 h; exact hb h), if_neg (by rintro (h | h); exact h0 h; exact hc h)]; omega
theorem ac_mono {x y : Nat → Int} (h : ∀ u, x u ≠ 0 → y u = x u) : ∀ d u b, ac x d u b ≤ ac y d u b
  | 0, _, _ => Nat.le_refl _
  | d + 1, u, b => by
    unfold ac
    have h1 := ac_mono h d (u + 1) b
    by_cases h0 : x u = 0
    · rw [if_pos (.inl h0)]
      by_cases hy : y u = 0 ∨ y u = b
      · rw [if_pos hy]; exact h1
      · rw [if_neg hy]
        have := ac_lip x d (u + 1) b (y u)
        have := ac_mono h d (u + 1) (y u)
        omega
    · rw [h u h0]
      by_cases hb : x u = 0 ∨ x u = b
      · rw [if_pos hb, if_pos hb]; exact h1
      · rw [if_neg hb, if_neg hb]
        have := ac_mono h d (u + 1) (x u)
        omega
theorem fs_other (x : Nat → Int) : ∀ d u c, fs x d u ≠ 0 → fs x d u ≠ c → ac x d u c = ac x d u 0
  | 0, _, _, _, _ => rfl
  | d + 1, u, c, h1, h2 => by
    unfold fs at h1 h2
    unfold ac
    by_cases h0 : x u = 0
    · rw [if_pos h0] at h1 h2
      rw [if_pos (.inl h0), if_pos (.inl h0)]
      exact fs_other x d (u + 1) c h1 h2
    · rw [if_neg h0] at h1 h2
      rw [if_neg (by rintro (h | h); exact h0 h; exact h2 h), if_neg (by rintro (h | h); exact h0 h; exact h0 h)]
theorem fs_same (x : Nat → Int) : ∀ d u, fs x d u ≠ 0 → ac x d u (fs x d u) + 1 = ac x d u 0
  | 0, _, h => absurd rfl h
  | d + 1, u, h => by
    by_cases h0 : x u = 0
    · have e : fs x (d + 1) u = fs x d (u + 1) := if_pos h0
      rw [e] at h ⊢
      unfold ac
      rw [if_pos (.inl h0), if_pos (.inl h0)]
      exact fs_same x d (u + 1) h
    · have e : fs x (d + 1) u = x u := if_neg h0
      rw [e]
      unfold ac
      rw [if_pos (.inr rfl), if_neg (by rintro (h | h); exact h0 h; exact h0 h)]
theorem fs_lt {x y : Nat → Int} (h : ∀ u, x u ≠ 0 → y u = x u) (d u : Nat) (h1 : fs x d u ≠ 0) (h2 : fs y d u ≠ 0) (h3 : fs x d u ≠ fs y d u) : ac x d u 0 < ac y d u 0 := by
  have a := fs_other x d u (fs y d u) h1 h3
  have b := ac_mono h d u (fs y d u)
  have c := fs_same y d u h2
  omega
theorem ac_neg (x : Nat → Int) : ∀ d u b, ac (fun v => -x v) d u (-b) = ac x d u b
  | 0, _, _ => rfl
  | d + 1, u, b => by
    have h1 := ac_neg x d (u + 1) b
    have h2 := ac_neg x d (u + 1) (x u)
    unfold ac
    by_cases h : x u = 0 ∨ x u = b
    · rw [if_pos h, if_pos (by omega), h1]
    · rw [if_neg h, if_neg (by omega), h2]
theorem fs_neg (x : Nat → Int) : ∀ d u, fs (fun v => -x v) d u = -fs x d u
  | 0, _ => rfl
  | d + 1, u => by
    unfold fs
    by_cases h : x u = 0
    · rw [if_pos h, if_pos (by omega), fs_neg x d]
    · rw [if_neg h, if_neg (by omega)]
theorem fs_unit (x : Nat → Int) (h : ∀ u, x u = 0 ∨ x u = 1 ∨ x u = -1) : ∀ d u, fs x d u = 0 ∨ fs x d u = 1 ∨ fs x d u = -1
  | 0, _ => .inl rfl
  | d + 1, u => by
    unfold fs
    split
    · exact fs_unit x h d (u + 1)
    · exact h u
theorem fs_some (x : Nat → Int) : ∀ d u v, u ≤ v → v < u + d → x v ≠ 0 → fs x d u ≠ 0
  | 0, u, v, h1, h2, _ => by omega
  | d + 1, u, v, h1, h2, h3 => by
    unfold fs
    by_cases h : x u = 0
    · rw [if_pos h]
      refine fs_some x d (u + 1) v ?_ (by omega) h3
      rcases Nat.lt_or_ge u v with h4 | h4
      · exact h4
      · have : u = v := by omega
        subst this
        exact absurd h h3
    · rw [if_neg h]; exact h
theorem ac_pos (x : Nat → Int) (d u : Nat) (h : fs x d u ≠ 0) : 0 < ac x d u 0 := by have := fs_same x d u h; omega
/-- Every second sign turned. -/
def tw (x : Nat → Int) : Nat → Int := fun u => if u % 2 = 0 then x u else -x u
theorem tw_zero (x : Nat → Int) (u : Nat) : tw x u = 0 ↔ x u = 0 := by unfold tw; split <;> omega
theorem tw_neg (x : Nat → Int) : tw (fun u => -x u) = fun u => -tw x u := by funext u; unfold tw; split <;> rfl
/-- One after the other: either the signs alternate or the turned ones do. -/
theorem ac_tw {y : Nat → Int} : ∀ d u, (∀ v, u ≤ v → v < u + 1 + d → y v = 1 ∨ y v = -1) → ac y d (u + 1) (y u) + ac (tw y) d (u + 1) (tw y u) = d
  | 0, _, _ => rfl
  | d + 1, u, h => by
    have h0 := h u (Nat.le_refl _) (by omega)
    have h1 := h (u + 1) (by omega) (by omega)
    have ih := ac_tw (y := y) d (u + 1) (fun v h2 h3 => h v (by omega) (by omega))
    unfold ac
    by_cases e : y (u + 1) = y u
    · have e2 : ¬ (tw y (u + 1) = 0 ∨ tw y (u + 1) = tw y u) := by unfold tw; split <;> split <;> omega
      rw [if_pos (.inr e), if_neg e2, ← e]; omega
    · have e2 : tw y (u + 1) = tw y u := by unfold tw; split <;> split <;> omega
      rw [if_neg (by omega), if_pos (.inr e2), ← e2]; omega
theorem ac_full {y : Nat → Int} {n : Nat} (hn : 0 < n) (h : ∀ v, v < n → y v = 1 ∨ y v = -1) : ac y n 0 0 + ac (tw y) n 0 0 = n + 1 := by
  obtain ⟨d, rfl⟩ : ∃ d, n = d + 1 := ⟨n - 1, by omega⟩
  have h0 := h 0 (by omega)
  have := ac_tw (y := y) d 0 (fun v _ h2 => h v (by omega))
  unfold ac
  rw [if_neg (by omega), if_neg (by rw [tw_zero]; omega)]
  omega
/-! ### counting -/
def ct (f : Nat → Bool) : Nat → Nat
  | 0 => 0
  | n + 1 => ct f n + if f n = true then 1 else 0
theorem ct_congr {f g : Nat → Bool} : ∀ n, (∀ u, u < n → f u = g u) → ct f n = ct g n
  | 0, _ => rfl
  | n + 1, h => by
    unfold ct
    rw [ct_congr n (fun u hu => h u (by omega)), h n (by omega)]
theorem ct_false : ∀ n, ct (fun _ => false) n = 0
  | 0 => rfl
  | n + 1 => by unfold ct; rw [ct_false n]; rfl
theorem ct_mono {f g : Nat → Bool} : ∀ n, (∀ u, u < n → f u = true → g u = true) → ct f n ≤ ct g n
  | 0, _ => Nat.le_refl _
  | n + 1, h => by
    unfold ct
    have := ct_mono n (fun u hu => h u (by omega))
    have := h n (by omega)
    split <;> split <;> simp_all <;> omega
theorem ct_one {f g : Nat → Bool} : ∀ n u, u < n → (∀ v, v < n → v ≠ u → f v = g v) → f u = false → g u = true → ct g n = ct f n + 1
  | 0, u, h, _, _, _ => by omega
  | n + 1, u, h, h1, h2, h3 => by
    unfold ct
    rcases Nat.lt_or_ge u n with h4 | h4
    · rw [ct_one n u h4 (fun v hv => h1 v (by omega)) h2 h3, h1 n (by omega) (by omega)]; omega
    · have : u = n := by omega
      subst this
      rw [ct_congr u (fun v hv => (h1 v (by omega) (by omega)).symm), h2, h3]; simp
theorem ct_add {f g k : Nat → Bool} : ∀ n, (∀ u, u < n → (if f u = true then 1 else 0) + (if g u = true then 1 else 0) = (if k u = true then 1 else 0 : Nat)) → ct f n + ct g n = ct k n
  | 0, _ => rfl
  | n + 1, h => by
    have := ct_add n (fun u hu => h u (by omega))
    have := h n (by omega)
    unfold ct
    omega
section
variable (kind : Nat → Nat)
def P (x : Nat → Int) (n i : Nat) : Nat := ct (fun u => kind u == i && x u == 1) n
def Q (x : Nat → Int) (n i : Nat) : Nat := ct (fun u => kind u == i && x u == -1) n
def Z (x : Nat → Int) (n i : Nat) : Nat := ct (fun u => kind u == i && x u == 0) n
def T (n i : Nat) : Nat := ct (fun u => kind u == i) n
theorem PQZ {x : Nat → Int} (hx : ∀ u, x u = 0 ∨ x u = 1 ∨ x u = -1) (n i : Nat) : P kind x n i + Q kind x n i + Z kind x n i = T kind n i := by
  have h1 : P kind x n i + Q kind x n i = ct (fun u => kind u == i && !(x u == 0)) n := ct_add n (fun u _ => by
    cases kind u == i
    · rfl
    · rcases hx u with h | h | h <;> rw [h] <;> rfl)
  rw [h1]
  exact ct_add n (fun u _ => by cases kind u == i <;> cases x u == 0 <;> rfl)
theorem P_neg (x : Nat → Int) (n i : Nat) : P kind (fun u => -x u) n i = Q kind x n i := ct_congr n (fun u _ => by
  show (kind u == i && -x u == 1) = (kind u == i && x u == -1)
  have : (-x u == 1) = (x u == -1) := by rw [Bool.eq_iff_iff, beq_iff_eq, beq_iff_eq]; omega
  rw [this])
theorem Q_neg (x : Nat → Int) (n i : Nat) : Q kind (fun u => -x u) n i = P kind x n i := ct_congr n (fun u _ => by
  show (kind u == i && -x u == -1) = (kind u == i && x u == 1)
  have : (-x u == -1) = (x u == 1) := by rw [Bool.eq_iff_iff, beq_iff_eq, beq_iff_eq]; omega
  rw [this])
theorem P_le {x y : Nat → Int} (h : ∀ u, x u ≠ 0 → y u = x u) (n i : Nat) : P kind x n i ≤ P kind y n i := ct_mono n (fun u _ hu => by
  obtain ⟨h1, h2⟩ := Bool.and_eq_true_iff.1 hu
  have h3 : x u = 1 := beq_iff_eq.1 h2
  show (kind u == i && y u == 1) = true
  rw [h1, h u (by omega), h3]; rfl)
theorem Q_le {x y : Nat → Int} (h : ∀ u, x u ≠ 0 → y u = x u) (n i : Nat) : Q kind x n i ≤ Q kind y n i := ct_mono n (fun u _ hu => by
  obtain ⟨h1, h2⟩ := Bool.and_eq_true_iff.1 hu
  have h3 : x u = -1 := beq_iff_eq.1 h2
  show (kind u == i && y u == -1) = true
  rw [h1, h u (by omega), h3]; rfl)
def put (x : Nat → Int) (u : Nat) (s : Int) : Nat → Int := fun v => if v = u then s else x v
theorem put_ge {x : Nat → Int} {u : Nat} {s : Int} (h : x u = 0) : ∀ v, x v ≠ 0 → put x u s v = x v := fun v hv => if_neg (fun e => hv (by rw [e]; exact h))
/-- What has no excess is completed without one. -/
theorem complete (half : Nat → Nat) (n : Nat) (hh : ∀ u, u < n → T kind n (kind u) = 2 * half (kind u)) : ∀ (z : Nat) (x : Nat → Int), ct (fun u => x u == 0) n = z → (∀ u, x u = 0 ∨ x u = 1 ∨ x u = -1) →
    (∀ u, u < n → P kind x n (kind u) ≤ half (kind u) ∧ Q kind x n (kind u) ≤ half (kind u)) →
    ∃ y : Nat → Int, (∀ u, x u ≠ 0 → y u = x u) ∧ (∀ u, y u = 0 ∨ y u = 1 ∨ y u = -1) ∧ (∀ u, u < n → y u = 1 ∨ y u = -1) ∧ ∀ u, u < n → P kind y n (kind u) = half (kind u) ∧ Q kind y n (kind u) = half (kind u)
  | 0, x, hz, hx, hb => by
    have hno : ∀ m, ct (fun u => x u == 0) m = 0 → ∀ u, u < m → x u ≠ 0 := fun m => by
      induction m with
      | zero => intro _ u hu; omega
      | succ m ih =>
        intro h u hu
        unfold ct at h
        rcases Nat.lt_or_ge u m with h1 | h1
        · exact ih (by omega) u h1
        · have : u = m := by omega
          subst this
          intro e
          simp [e] at h
    have hn := hno n hz
    refine ⟨x, fun _ _ => rfl, hx, fun u hu => (hx u).resolve_left (hn u hu), fun u hu => ?_⟩
    have h1 := PQZ kind hx n (kind u)
    have h2 : Z kind x n (kind u) = 0 := by
      have : Z kind x n (kind u) = ct (fun _ => false) n := ct_congr n (fun v hv => by
        have : (x v == 0) = false := beq_eq_false_iff_ne.2 (hn v hv)
        show (kind v == kind u && x v == 0) = false
        rw [this, Bool.and_false])
      rw [this, ct_false]
    have h3 := hh u hu
    have h4 := hb u hu
    omega
  | z + 1, x, hz, hx, hb => by
    have hex : ∀ m, ct (fun u => x u == 0) m ≠ 0 → ∃ u, u < m ∧ x u = 0 := fun m => by
      induction m with
      | zero => intro h; exact absurd rfl h
      | succ m ih =>
        intro h
        by_cases h1 : x m = 0
        · exact ⟨m, by omega, h1⟩
        · unfold ct at h
          have : (x m == 0) = false := beq_eq_false_iff_ne.2 h1
          rw [this] at h
          obtain ⟨u, hu, e⟩ := ih (by simpa using h)
          exact ⟨u, by omega, e⟩
    obtain ⟨u, hu, e⟩ := hex n (by omega)
    have hstep : ∀ s : Int, (s = 1 ∨ s = -1) → (∀ v, v < n → P kind (put x u s) n (kind v) ≤ half (kind v) ∧ Q kind (put x u s) n (kind v) ≤ half (kind v)) →
        ∃ y : Nat → Int, (∀ u, x u ≠ 0 → y u = x u) ∧ (∀ u, y u = 0 ∨ y u = 1 ∨ y u = -1) ∧ (∀ u, u < n → y u = 1 ∨ y u = -1) ∧ ∀ u, u < n → P kind y n (kind u) = half (kind u) ∧ Q kind y n (kind u) = half (kind u) := fun s hs hb2 => by
      have hz2 : ct (fun v => put x u s v == 0) n = z := by
        have := ct_one (f := fun v => put x u s v == 0) (g := fun v => x v == 0) n u hu (fun v _ hv => by show (put x u s v == 0) = (x v == 0); unfold put; rw [if_neg hv]) (by show (put x u s u == 0) = false; unfold put; rw [if_pos rfl]; rcases hs with h | h <;> rw [h] <;> rfl) (by show (x u == 0) = true; rw [e]; rfl)
        omega
      have hx2 : ∀ v, put x u s v = 0 ∨ put x u s v = 1 ∨ put x u s v = -1 := fun v => by unfold put; split; exact .inr hs; exact hx v
      obtain ⟨y, h1, h2, h3, h4⟩ := complete half n hh z (put x u s) hz2 hx2 hb2
      exact ⟨y, fun v hv => (h1 v (by rw [put_ge e v hv]; exact hv)).trans (put_ge e v hv), h2, h3, h4⟩
    have hPs : ∀ (s : Int) i, (s = 1 ∨ s = -1) → P kind (put x u s) n i = P kind x n i + (if kind u = i ∧ s = 1 then 1 else 0) ∧ Q kind (put x u s) n i = Q kind x n i + (if kind u = i ∧ s = -1 then 1 else 0) := fun s i hs => by
      constructor
      · by_cases hc : kind u = i ∧ s = 1
        · rw [if_pos hc]
          exact ct_one n u hu (fun v _ hv => by show (kind v == i && x v == 1) = (kind v == i && put x u s v == 1); unfold put; rw [if_neg hv]) (by show (kind u == i && x u == 1) = false; rw [e]; simp) (by show (kind u == i && put x u s u == 1) = true; unfold put; rw [if_pos rfl, hc.1, hc.2]; simp)
        · rw [if_neg hc]
          refine ct_congr n (fun v _ => ?_)
          show (kind v == i && put x u s v == 1) = (kind v == i && x v == 1)
          unfold put
          by_cases hv : v = u
          · subst hv
            rw [if_pos rfl, e]
            by_cases hk : kind v = i
            · have : s = -1 := hs.resolve_left (fun z => hc ⟨hk, z⟩)
              rw [this]; simp
            · have : (kind v == i) = false := beq_eq_false_iff_ne.2 hk
              rw [this]; rfl
          · rw [if_neg hv]
      · by_cases hc : kind u = i ∧ s = -1
        · rw [if_pos hc]
          exact ct_one n u hu (fun v _ hv => by show (kind v == i && x v == -1) = (kind v == i && put x u s v == -1); unfold put; rw [if_neg hv]) (by show (kind u == i && x u == -1) = false; rw [e]; simp) (by show (kind u == i && put x u s u == -1) = true; unfold put; rw [if_pos rfl, hc.1, hc.2]; simp)
        · rw [if_neg hc]
          refine ct_congr n (fun v _ => ?_)
          show (kind v == i && put x u s v == -1) = (kind v == i && x v == -1)
          unfold put
          by_cases hv : v = u
          · subst hv
            rw [if_pos rfl, e]
            by_cases hk : kind v = i
            · have : s = 1 := hs.resolve_right (fun z => hc ⟨hk, z⟩)
              rw [this]; simp
            · have : (kind v == i) = false := beq_eq_false_iff_ne.2 hk
              rw [this]; rfl
          · rw [if_neg hv]
    have h1 := PQZ kind hx n (kind u)
    have h2 : 0 < Z kind x n (kind u) := by
      have := ct_one (f := fun _ => false) (g := fun v => decide (v = u)) n u hu (fun v _ hv => (decide_eq_false hv).symm) rfl (decide_eq_true rfl)
      have h3 : ct (fun v => decide (v = u)) n ≤ Z kind x n (kind u) := ct_mono n (fun v _ hv => by
        have : v = u := of_decide_eq_true hv
        subst this
        show (kind v == kind v && x v == 0) = true
        rw [e]; simp)
      omega
    have h3 := hh u hu
    have h4 := hb u hu
    by_cases hc : P kind x n (kind u) < half (kind u)
    · refine hstep 1 (.inl rfl) (fun v hv => ?_)
      have h5 := hPs 1 (kind v) (.inl rfl)
      have h6 := hb v hv
      rw [h5.1, h5.2]
      by_cases hk : kind u = kind v
      · rw [if_pos ⟨hk, rfl⟩, if_neg (by omega), ← hk]; omega
      · rw [if_neg (fun z => hk z.1), if_neg (fun z => hk z.1)]; omega
    · refine hstep (-1) (.inr rfl) (fun v hv => ?_)
      have h5 := hPs (-1) (kind v) (.inr rfl)
      have h6 := hb v hv
      rw [h5.1, h5.2]
      by_cases hk : kind u = kind v
      · rw [if_neg (by omega), if_pos ⟨hk, rfl⟩, ← hk]; omega
      · rw [if_neg (fun z => hk z.1), if_neg (fun z => hk z.1)]; omega
end
end Go.Proofs.YthkdkgbcokpbaacGreatDoor.QFnNecklacesShared.Neck
namespace Go.Proofs.YthkdkgbcokpbaacGreatDoor.QFnNecklacesShared.Neck
structure Val (n : Nat) (x : Nat → Int) : Prop where
  unit : ∀ u, x u = 0 ∨ x u = 1 ∨ x u = -1
  some_ : ∃ u, u < n ∧ x u ≠ 0
theorem vec_unit (l : List Lab) (u : Nat) : vec l u = 0 ∨ vec l u = 1 ∨ vec l u = -1 := by
  unfold vec
  split
  · exact .inr (.inl rfl)
  · split
    · exact .inr (.inr rfl)
    · exact .inl rfl
theorem vec_val {k n : Nat} (hk : k ≤ n) {q r : List Lab} (h : SP k (q ++ r)) (hq : q ≠ []) : Val n (vec q) := by
  refine ⟨vec_unit q, ?_⟩
  cases q with
  | nil => exact absurd rfl hq
  | cons x q =>
    obtain ⟨u, s⟩ := x
    have hlt := h.lt (u, s) (by simp)
    refine ⟨u, by have : u < k := hlt; omega, ?_⟩
    unfold vec
    cases s with
    | true => rw [if_pos List.mem_cons_self]; decide
    | false =>
      rw [if_neg (fun z => h.one (u := u) (List.mem_append_left _ z) (by simp)), if_pos List.mem_cons_self]
      decide
theorem vec_ng {k : Nat} {q r : List Lab} (h : SP k (q ++ r)) : vec (q.map ng) = fun u => -vec q u := by
  funext u
  unfold vec
  by_cases h1 : (u, true) ∈ q
  · have h2 : (u, false) ∉ q := fun z => h.one (u := u) (List.mem_append_left _ h1) (List.mem_append_left _ z)
    rw [if_neg (fun z => h2 (ng_mem.1 z)), if_pos (ng_mem.2 h1), if_pos h1]
  · rw [if_neg h1]
    by_cases h2 : (u, false) ∈ q
    · rw [if_pos (ng_mem.2 h2), if_pos h2]; rfl
    · rw [if_neg (fun z => h2 (ng_mem.1 z)), if_neg (fun z => h1 (ng_mem.1 z)), if_neg h2]; rfl
theorem vec_ge {k : Nat} {q r r' : List Lab} (h : SP k (q ++ r ++ r')) : ∀ u, vec q u ≠ 0 → vec (q ++ r) u = vec q u := fun u hu => by
  unfold vec at hu ⊢
  by_cases h1 : (u, true) ∈ q
  · rw [if_pos h1, if_pos (List.mem_append_left _ h1)]
  · rw [if_neg h1] at hu ⊢
    by_cases h2 : (u, false) ∈ q
    · rw [if_pos h2, if_neg (fun z => h.one (u := u) (List.mem_append_left _ z) (List.mem_append_left _ (List.mem_append_left _ h2))), if_pos (List.mem_append_left _ h2)]
    · rw [if_neg h2] at hu
      exact absurd rfl hu
section
variable (kind : Nat → Nat) (half : Nat → Nat) (n : Nat) (K : List Nat)
def exc (x : Nat → Int) (i : Nat) : Bool := decide (half i < P kind x n i) || decide (half i < Q kind x n i)
/-- A label: how often the turned signs alternate, if it is not much; otherwise a kind of which one has too much. -/
def Lam (x : Nat → Int) : Lab :=
  if ac (tw x) n 0 0 + K.length + 1 ≤ n then (ac (tw x) n 0 0 - 1, decide (fs (tw x) n 0 = 1))
  else match K.find? (exc kind half n x) with
    | some i => (n + i, decide (half i < P kind x n i))
    | none => (0, true)
/-- Is there a fair cut with as many cuts as kinds? -/
def Fair (kind half : Nat → Nat) (n t : Nat) : Prop := ∃ y : Nat → Int, (∀ u, u < n → y u = 1 ∨ y u = -1) ∧ ac y n 0 0 ≤ t + 1 ∧ ∀ u, u < n → P kind y n (kind u) = half (kind u) ∧ Q kind y n (kind u) = half (kind u)
variable {kind half n K}
theorem fs_val {x : Nat → Int} (h : Val n x) : fs (tw x) n 0 = 1 ∨ fs (tw x) n 0 = -1 := by
  obtain ⟨u, hu, hx⟩ := h.some_
  have h1 := fs_some (tw x) n 0 u (Nat.zero_le _) (by omega) (fun z => hx ((tw_zero x u).1 z))
  have h2 := fs_unit (tw x) (fun v => by have := h.unit v; unfold tw; split <;> omega) n 0
  omega
theorem tw_ge {x y : Nat → Int} (h : ∀ u, x u ≠ 0 → y u = x u) : ∀ u, tw x u ≠ 0 → tw y u = tw x u := fun u hu => by
  have := h u (fun z => hu ((tw_zero x u).2 z))
  unfold tw
  rw [this]
variable (hK : ∀ u, u < n → kind u ∈ K) (hh : ∀ u, u < n → T kind n (kind u) = 2 * half (kind u)) (hT : ∀ i, i ∈ K → T kind n i = 2 * half i) (hno : ¬ Fair kind half n K.length) (hn : 0 < n)
include hK hh hT hno hn
theorem find_some {x : Nat → Int} (hx : Val n x) (h : ¬ ac (tw x) n 0 0 + K.length + 1 ≤ n) : ∃ i, K.find? (exc kind half n x) = some i ∧ i ∈ K ∧ exc kind half n x i = true := by
  cases hf : K.find? (exc kind half n x) with
  | some i => exact ⟨i, rfl, List.mem_of_find?_eq_some hf, List.find?_some hf⟩
  | none =>
    exfalso
    have hb : ∀ u, u < n → P kind x n (kind u) ≤ half (kind u) ∧ Q kind x n (kind u) ≤ half (kind u) := fun u hu => by
      have := List.find?_eq_none.1 hf (kind u) (hK u hu)
      unfold exc at this
      simp at this
      omega
    obtain ⟨y, h1, h2, h3, h4⟩ := complete kind half n hh _ x rfl hx.unit hb
    refine hno ⟨y, h3, ?_, h4⟩
    have h5 := ac_mono (tw_ge h1) n 0 0
    have h6 := ac_full hn h3
    omega
theorem exc_one {x : Nat → Int} (hx : Val n x) {i : Nat} (hi : i ∈ K) (h : exc kind half n x i = true) : decide (half i < Q kind x n i) = !decide (half i < P kind x n i) := by
  have h1 := PQZ kind hx.unit n i
  have h2 := hT i hi
  unfold exc at h
  by_cases hp : half i < P kind x n i
  · rw [decide_eq_true hp, decide_eq_false (show ¬ half i < Q kind x n i by omega)]; rfl
  · rw [decide_eq_false hp, Bool.false_or] at h
    rw [decide_eq_false hp, h]; rfl
theorem lam_lt {x : Nat → Int} (hx : Val n x) : (Lam kind half n K x).1 ∈ (List.range (n - 1 - K.length)) ++ K.map (n + ·) := by
  unfold Lam
  by_cases h : ac (tw x) n 0 0 + K.length + 1 ≤ n
  · rw [if_pos h]
    have hf := fs_val hx
    have := ac_pos (tw x) n 0 (by omega)
    refine List.mem_append_left _ (List.mem_range.2 ?_)
    show ac (tw x) n 0 0 - 1 < n - 1 - K.length
    omega
  · rw [if_neg h]
    obtain ⟨i, e, hi, _⟩ := find_some hK hh hT hno hn hx h
    rw [e]
    exact List.mem_append_right _ (List.mem_map.2 ⟨i, hi, rfl⟩)
theorem lam_neg {x : Nat → Int} (hx : Val n x) : Lam kind half n K (fun u => -x u) = ng (Lam kind half n K x) := by
  have ha : ac (tw (fun u => -x u)) n 0 0 = ac (tw x) n 0 0 := by
    rw [tw_neg]
    exact ac_neg (tw x) n 0 0
  unfold Lam
  rw [ha]
  by_cases h : ac (tw x) n 0 0 + K.length + 1 ≤ n
  · rw [if_pos h, if_pos h, tw_neg, fs_neg]
    have hf := fs_val hx
    unfold ng
    rcases hf with hf | hf <;> rw [hf] <;> rfl
  · rw [if_neg h, if_neg h]
    have he : exc kind half n (fun u => -x u) = exc kind half n x := by
      funext i
      unfold exc
      rw [P_neg, Q_neg, Bool.or_comm]
    rw [he]
    obtain ⟨i, e, hi, hex⟩ := find_some hK hh hT hno hn hx h
    rw [e]
    show (n + i, decide (half i < P kind (fun u => -x u) n i)) = (n + i, !decide (half i < P kind x n i))
    rw [P_neg, exc_one hK hh hT hno hn hx hi hex]
theorem lam_comp {x y : Nat → Int} (hx : Val n x) (hy : Val n y) (h : ∀ u, x u ≠ 0 → y u = x u) : Lam kind half n K y ≠ ng (Lam kind half n K x) := by
  have hm := ac_mono (tw_ge h) n 0 0
  unfold Lam
  by_cases h1 : ac (tw y) n 0 0 + K.length + 1 ≤ n
  · rw [if_pos h1, if_pos (by omega)]
    intro e
    obtain ⟨e1, e2⟩ := Prod.mk.inj e
    have hfx := fs_val hx
    have hfy := fs_val hy
    have p1 := ac_pos (tw x) n 0 (by omega)
    have hlt := fs_lt (tw_ge h) n 0 (by omega) (by omega)
    have e3 : fs (tw x) n 0 ≠ fs (tw y) n 0 := fun z => by
      rw [z] at e2
      have e2 : decide (fs (tw y) n 0 = 1) = !decide (fs (tw y) n 0 = 1) := e2
      cases hd : decide (fs (tw y) n 0 = 1) <;> rw [hd] at e2 <;> cases e2
    have := hlt e3
    have e1 : ac (tw y) n 0 0 - 1 = ac (tw x) n 0 0 - 1 := e1
    omega
  · rw [if_neg h1]
    obtain ⟨j, ej, hj, hexj⟩ := find_some hK hh hT hno hn hy h1
    rw [ej]
    by_cases h2 : ac (tw x) n 0 0 + K.length + 1 ≤ n
    · rw [if_pos h2]
      intro e
      have := (Prod.mk.inj e).1
      have : n + j = ac (tw x) n 0 0 - 1 := this
      omega
    · rw [if_neg h2]
      obtain ⟨i, ei, hi, hexi⟩ := find_some hK hh hT hno hn hx h2
      rw [ei]
      intro e
      obtain ⟨e1, e2⟩ := Prod.mk.inj e
      have e1 : n + j = n + i := e1
      have e1 : j = i := by omega
      subst e1
      have e2 : decide (half j < P kind y n j) = !decide (half j < P kind x n j) := e2
      have hP := P_le kind h n j
      have hQ := Q_le kind h n j
      have a1 := exc_one hK hh hT hno hn hx hi hexi
      have a2 := exc_one hK hh hT hno hn hy hj hexj
      by_cases hp : half j < P kind x n j
      · rw [decide_eq_true hp, decide_eq_true (show half j < P kind y n j by omega)] at e2
        cases e2
      · rw [decide_eq_false hp] at a1 e2
        have hq : half j < Q kind x n j := of_decide_eq_true a1
        rw [e2, decide_eq_true (show half j < Q kind y n j by omega)] at a2
        cases a2
end
/-- The necklace theorem of two thieves: as many cuts as kinds are enough. -/
theorem necklace (kind half : Nat → Nat) (n : Nat) (K : List Nat) (hK : ∀ u, u < n → kind u ∈ K) (hT : ∀ i, i ∈ K → T kind n i = 2 * half i) (hn : K.length + 1 ≤ n) : Fair kind half n K.length := by
  refine Classical.byContradiction fun hno => ?_
  have hh : ∀ u, u < n → T kind n (kind u) = 2 * half (kind u) := fun u hu => hT _ (hK u hu)
  have hn0 : 0 < n := by omega
  obtain ⟨B, hB⟩ : ∃ B, ∀ c ∈ (List.range (n - 1 - K.length)) ++ K.map (n + ·), c < B := by
    have : ∀ L : List Nat, ∃ B, ∀ c ∈ L, c < B := fun L => by
      induction L with
      | nil => exact ⟨0, fun c h => by cases h⟩
      | cons a r ih =>
        obtain ⟨B, h⟩ := ih
        refine ⟨a + B + 1, fun c hc => ?_⟩
        rcases List.mem_cons.1 hc with e | e
        · omega
        · have := h c e; omega
    exact this _
  have g : Good (Lam kind half n K) n B := by
    refine ⟨fun k l hk h q r e hq => ?_, fun k l hk h q r e hq => ?_, fun k l hk h q r r' e hq => ?_⟩
    · subst e
      exact hB _ (lam_lt hK hh hT hno hn0 (vec_val hk h hq))
    · subst e
      rw [vec_ng h]
      exact lam_neg hK hh hT hno hn0 (vec_val hk h hq)
    · subst e
      refine lam_comp hK hh hT hno hn0 (vec_val hk (r := r ++ r') (by rw [← List.append_assoc]; exact h) hq) (vec_val hk h (by simp [hq])) (vec_ge h)
  have := fan g ((List.range (n - 1 - K.length)) ++ K.map (n + ·)) (fun k l hk h q r e hq => by
    subst e
    exact lam_lt hK hh hT hno hn0 (vec_val hk h hq))
  rw [List.length_append, List.length_range, List.length_map] at this
  omega
end Go.Proofs.YthkdkgbcokpbaacGreatDoor.QFnNecklacesShared.Neck
/-! Necklaces: the least fair cuts are at most as many as the kinds; how the program and the reference find them. -/
namespace Go.Proofs.YthkdkgbcokpbaacGreatDoor.QFnNecklacesShared
open Go.RowKit Go.Proofs.YthkdkgbcokpbaacGreatDoor.PFnNecklacesShared Go.Proofs.YthkdkgbcokpbaacGreatDoorW.PrintWords Go.Proofs.YthkdkgbcokpbaacGreatDoorW.PrintLast Go.Proofs.YthkdkgbcokpbaacGreatDoorW.PrintMore
set_option linter.unusedVariables false
set_option linter.unusedSimpArgs false
set_option maxRecDepth 100000
/-! ### cuts out of signs -/
/-- The places, of d from u on, at which the sign is another one than ahead. -/
def cf (y : Nat → Int) : Nat → Nat → List Int
  | 0, _ => []
  | d + 1, u => if y u = y (u - 1) then cf y d (u + 1) else (u : Int) :: cf y d (u + 1)
theorem cf_len (y : Nat → Int) (n : Nat) (hy : ∀ u, u < n → y u = 1 ∨ y u = -1) : ∀ d u, 1 ≤ u → u + d = n → (cf y d u).length = Neck.ac y d u (y (u - 1))
  | 0, _, _, _ => rfl
  | d + 1, u, h1, h2 => by
    have h3 := hy u (by omega)
    have ih := cf_len y n hy d (u + 1) (by omega) (by omega)
    rw [Nat.add_sub_cancel] at ih
    unfold cf Neck.ac
    by_cases e : y u = y (u - 1)
    · rw [if_pos e, if_pos (.inr e), ih, e]
    · rw [if_neg e, if_neg (by omega), List.length_cons, ih]
theorem cf_mem (y : Nat → Int) (j : Nat) : ∀ d u, (j : Int) ∈ cf y d u ↔ u ≤ j ∧ j < u + d ∧ y j ≠ y (j - 1)
  | 0, u => by
    constructor
    · intro h; cases h
    · rintro ⟨h1, h2, _⟩; omega
  | d + 1, u => by
    have ih := cf_mem y j d (u + 1)
    unfold cf
    by_cases e : y u = y (u - 1)
    · rw [if_pos e, ih]
      constructor
      · rintro ⟨h1, h2, h3⟩; exact ⟨by omega, by omega, h3⟩
      · rintro ⟨h1, h2, h3⟩
        refine ⟨?_, by omega, h3⟩
        rcases Nat.lt_or_ge u j with h4 | h4
        · exact h4
        · have : u = j := by omega
          subst this
          exact absurd e h3
    · rw [if_neg e, List.mem_cons, ih]
      constructor
      · rintro (h | ⟨h1, h2, h3⟩)
        · have : j = u := by omega
          subst this
          exact ⟨Nat.le_refl _, by omega, e⟩
        · exact ⟨by omega, by omega, h3⟩
      · rintro ⟨h1, h2, h3⟩
        rcases Nat.lt_or_ge u j with h4 | h4
        · exact .inr ⟨h4, by omega, h3⟩
        · exact .inl (by omega)
theorem ch_sub {n m a : Nat} (ha : a < n) {r : List Int} (h : r ∈ ch n m (a + 1)) : r ∈ ch n m a := by
  cases m with
  | zero => exact h
  | succ m =>
    unfold ch at h ⊢
    rw [show n - a = (n - (a + 1)) + 1 by omega]
    unfold chFrom
    exact List.mem_append_right _ h
theorem cf_ch (y : Nat → Int) (n : Nat) : ∀ d u, u + d = n → cf y d u ∈ ch n (cf y d u).length u
  | 0, u, _ => List.mem_singleton.2 rfl
  | d + 1, u, h => by
    have ih := cf_ch y n d (u + 1) (by omega)
    unfold cf
    by_cases e : y u = y (u - 1)
    · rw [if_pos e]
      exact ch_sub (by omega) ih
    · rw [if_neg e, List.length_cons]
      unfold ch
      rw [show n - u = (n - (u + 1)) + 1 by omega]
      unfold chFrom
      exact List.mem_append_left _ (List.mem_map.2 ⟨_, ih, rfl⟩)
theorem among_mem (l : List Int) (x : Int) : ∀ d i, i + d = l.length → (among l x d i = true ↔ x ∈ l.drop i)
  | 0, i, h => by rw [List.drop_eq_nil_of_le (by omega)]; simp [among]
  | d + 1, i, h => by
    have hl : i < l.length := by omega
    have e : rd l (i : Int) = l[i] := by rw [rd_nat, List.getD_eq_getElem?_getD, List.getElem?_eq_getElem hl]; rfl
    rw [List.drop_eq_getElem_cons hl, List.mem_cons]
    unfold among
    rw [e]
    by_cases c : l[i] = x
    · rw [if_pos c]; simp [c]
    · rw [if_neg c, among_mem l x d (i + 1) (by omega)]
      exact ⟨fun h => .inr h, fun h => h.resolve_left (fun z => c z.symm)⟩
theorem signs_of (y : Nat → Int) (n : Nat) (hy : ∀ u, u < n → y u = 1 ∨ y u = -1) (l : List Int) (hl : ∀ j : Nat, 1 ≤ j → j < n → ((j : Int) ∈ l ↔ y j ≠ y (j - 1))) : ∀ d i, 1 ≤ i → i + d = n → ∀ j, j < d → rd (signsFn l d i (y (i - 1))) (j : Int) = y (i + j)
  | 0, _, _, _, j, hj => by omega
  | d + 1, i, h1, h2, j, hj => by
    have h3 := hl i h1 (by omega)
    have ha := among_mem l (i : Int) l.length 0 (by omega)
    rw [List.drop_zero] at ha
    have hyi := hy i (by omega)
    have hyp := hy (i - 1) (by omega)
    have ih := signs_of y n hy l hl d (i + 1) (by omega) (by omega)
    rw [Nat.add_sub_cancel] at ih
    have key : ∀ r, r = y i → ∀ j, j < d + 1 → rd (r :: signsFn l d (i + 1) r) (j : Int) = y (i + j) := fun r hr j hj => by
      subst hr
      cases j with
      | zero => rfl
      | succ j =>
        have := ih j (by omega)
        rw [show i + (j + 1) = i + 1 + j by omega, ← this]
        rw [rd_nat, rd_nat]
        rfl
    unfold signsFn
    by_cases c : among l (i : Int) l.length 0 = true
    · rw [if_pos c]
      have := h3.1 (ha.1 c)
      exact key (-y (i - 1)) (by omega) j hj
    · rw [if_neg c]
      have : y i = y (i - 1) := Classical.byContradiction (fun z => c (ha.2 (h3.2 z)))
      exact key (y (i - 1)) this.symm j hj
/-! ### the kinds of a necklace -/
def kd (bs : List UInt8) (u : Nat) : Nat := (bs.getD u 0).toNat
theorem kd_at {bs : List UInt8} {u : Nat} (h : u < bs.length) : kd bs u = (bs[u]).toNat := by unfold kd; rw [List.getD_eq_getElem?_getD, List.getElem?_eq_getElem h]; rfl
theorem T_cn (bs : List UInt8) (v : Nat) : ∀ m, m ≤ bs.length → (Neck.T (kd bs) m v : Int) = cn v (bs.take m)
  | 0, _ => rfl
  | m + 1, h => by
    have ih := T_cn bs v m (by omega)
    have e : bs.take (m + 1) = bs.take m ++ [bs[m]] := by rw [List.take_succ_eq_append_getElem (by omega)]
    rw [e, cn_snoc, ← ih, ← kd_at (show m < bs.length by omega)]
    unfold Neck.T
    show ((Neck.ct _ m + if (kd bs m == v) = true then 1 else 0 : Nat) : Int) = _
    by_cases c : kd bs m = v
    · rw [if_pos (beq_iff_eq.2 c), if_pos c]; omega
    · rw [if_neg (fun z => c (beq_iff_eq.1 z)), if_neg c]; omega
theorem mine_cn (bs : List UInt8) (y : Nat → Int) (sg : List Int) (v : Nat) (hs : ∀ j, j < bs.length → rd sg (j : Int) = y j) : ∀ m, m ≤ bs.length → cn v (mine bs sg m) = (Neck.P (kd bs) y m v : Int)
  | 0, _ => rfl
  | m + 1, h => by
    have hlt : m < bs.length := by omega
    have ih := mine_cn bs y sg v hs m (by omega)
    have hg : bs[m]? = some bs[m] := List.getElem?_eq_getElem hlt
    have e : (Neck.P (kd bs) y (m + 1) v : Int) = (Neck.P (kd bs) y m v : Int) + (if (kd bs m == v && y m == 1) = true then 1 else 0) := by
      unfold Neck.P
      show ((Neck.ct _ m + if (kd bs m == v && y m == 1) = true then 1 else 0 : Nat) : Int) = _
      split <;> omega
    rw [e, ← ih]
    by_cases c : y m = 1
    · rw [mine_some hg (by rw [hs m hlt]; exact c), cn_snoc, kd_at hlt, c]
      by_cases c2 : (bs[m]).toNat = v
      · rw [if_pos c2, if_pos (by rw [beq_iff_eq.2 c2]; rfl)]
      · rw [if_neg c2, if_neg (by rw [beq_eq_false_iff_ne.2 c2]; decide)]
    · rw [mine_none (by rw [hs m hlt]; exact c), if_neg (by rw [beq_eq_false_iff_ne.2 c, Bool.and_false]; decide), Int.add_zero]
/-- The kinds that are there. -/
def kin (bs : List UInt8) : List Nat := [97, 98, 99, 100].filter fun v => decide (0 < cn v bs)
theorem kin_le (bs : List UInt8) : (kin bs).length ≤ 4 := by
  unfold kin
  exact Nat.le_trans (List.length_filter_le _ _) (by decide)
def evens (bs : List UInt8) : Bool := decide (cn 97 bs % 2 = 0) && decide (cn 98 bs % 2 = 0) && decide (cn 99 bs % 2 = 0) && decide (cn 100 bs % 2 = 0)
theorem evens_at {bs : List UInt8} (h : evens bs = true) {v : Nat} (hv : v = 97 ∨ v = 98 ∨ v = 99 ∨ v = 100) : cn v bs % 2 = 0 := by
  unfold evens at h
  simp only [Bool.and_eq_true, decide_eq_true_eq] at h
  rcases hv with rfl | rfl | rfl | rfl
  · exact h.1.1.1
  · exact h.1.1.2
  · exact h.1.2
  · exact h.2
theorem kin_mem {bs : List UInt8} {v : Nat} : v ∈ kin bs ↔ (v = 97 ∨ v = 98 ∨ v = 99 ∨ v = 100) ∧ 0 < cn v bs := by
  unfold kin
  rw [List.mem_filter, decide_eq_true_eq]
  simp
theorem twice_of {a b : List Int} (h : ∀ i : Nat, i < 4 → 2 * rd a (i : Int) = rd b (i : Int)) : twice a b 4 0 = true := by
  have h0 := h 0 (by decide)
  have h1 := h 1 (by decide)
  have h2 := h 2 (by decide)
  have h3 := h 3 (by decide)
  simp only [twice]
  rw [if_pos h0, if_pos h1, if_pos h2, if_pos h3]
theorem twice_at {a b : List Int} (h : twice a b 4 0 = true) (i : Nat) (hi : i < 4) : 2 * rd a (i : Int) = rd b (i : Int) := by
  simp only [twice] at h
  split at h
  · split at h
    · split at h
      · split at h
        · match i with
          | 0 => assumption
          | 1 => assumption
          | 2 => assumption
          | 3 => assumption
          | n + 4 => omega
        · cases h
      · cases h
    · cases h
  · cases h
theorem rd_cnt (bs : List UInt8) : rd (cntL bs) ((0 : Nat) : Int) = cn 97 bs ∧ rd (cntL bs) ((1 : Nat) : Int) = cn 98 bs ∧ rd (cntL bs) ((2 : Nat) : Int) = cn 99 bs ∧ rd (cntL bs) ((3 : Nat) : Int) = cn 100 bs := ⟨rfl, rfl, rfl, rfl⟩
/-- Even numbers of all kinds: there are fair cuts, at most as many as kinds. -/
theorem fair_some (s : ByteArray) (hb : beads s = true) (hs : s.size ≤ 16) (he : evens s.data.toList = true) : ∃ m, m ≤ (kin s.data.toList).length ∧ ∃ r, r ∈ ch s.size m 1 ∧ fairOf s r = true := by
  have hlen := size_list s
  generalize hbs : s.data.toList = bs at *
  have hkind : ∀ u, u < bs.length → kd bs u = 97 ∨ kd bs u = 98 ∨ kd bs u = 99 ∨ kd bs u = 100 := fun u hu => by
    rw [kd_at hu]
    have : isBead bs[u] = true := by
      unfold beads at hb
      rw [hbs] at hb
      exact List.all_eq_true.1 hb _ (List.getElem_mem hu)
    exact kind_cases this
  have hTn : ∀ v, (Neck.T (kd bs) bs.length v : Int) = cn v bs := fun v => by rw [T_cn bs v bs.length (Nat.le_refl _), List.take_length]
  have hpos : ∀ u, u < bs.length → 0 < cn (kd bs u) bs := fun u hu => by
    rw [← hTn]
    have := Neck.ct_one (f := fun _ => false) (g := fun v => decide (v = u)) bs.length u hu (fun v _ hv => (decide_eq_false hv).symm) rfl (decide_eq_true rfl)
    have h3 : Neck.ct (fun v => decide (v = u)) bs.length ≤ Neck.T (kd bs) bs.length (kd bs u) := Neck.ct_mono bs.length (fun v _ hv => by
      have : v = u := of_decide_eq_true hv
      subst this
      exact beq_iff_eq.2 rfl)
    omega
  rcases Nat.eq_zero_or_pos bs.length with h0 | h0
  · refine ⟨0, Nat.zero_le _, [], List.mem_singleton.2 rfl, ?_⟩
    have : bs = [] := List.eq_nil_of_length_eq_zero h0
    subst this
    unfold fairOf shareL
    rw [hbs, ← hlen, h0]
    decide
  · -- more beads than kinds
    have hmore : (kin bs).length + 1 ≤ bs.length := by
      have hsum : ∀ l : List UInt8, (∀ b ∈ l, isBead b = true) → cn 97 l + cn 98 l + cn 99 l + cn 100 l = l.length := fun l => by
        induction l with
        | nil => intro _; rfl
        | cons b l ih =>
          intro h
          have ih := ih (fun x hx => h x (List.mem_cons_of_mem _ hx))
          have hk := kind_cases (h b List.mem_cons_self)
          have e : ∀ v, cn v (b :: l) = cn v l + (if b.toNat = v then 1 else 0) := fun v => by
            unfold cn
            rw [List.countP_cons]
            by_cases c : b.toNat = v
            · rw [if_pos c, if_pos (decide_eq_true c)]; omega
            · rw [if_neg c, if_neg (by rw [decide_eq_false c]; decide)]; omega
          rw [e, e, e, e, List.length_cons]
          rcases hk with h | h | h | h <;> rw [h] <;> simp <;> omega
      have hall : ∀ b ∈ bs, isBead b = true := by
        unfold beads at hb
        rw [hbs] at hb
        exact List.all_eq_true.1 hb
      have h1 := hsum bs hall
      have e1 := evens_at he (v := 97) (by decide)
      have e2 := evens_at he (v := 98) (by decide)
      have e3 := evens_at he (v := 99) (by decide)
      have e4 := evens_at he (v := 100) (by decide)
      have p1 := (cn_le 97 bs).1
      have p2 := (cn_le 98 bs).1
      have p3 := (cn_le 99 bs).1
      have p4 := (cn_le 100 bs).1
      unfold kin
      simp only [List.filter_cons, List.filter_nil]
      by_cases c1 : 0 < cn 97 bs <;> by_cases c2 : 0 < cn 98 bs <;> by_cases c3 : 0 < cn 99 bs <;> by_cases c4 : 0 < cn 100 bs <;> simp only [c1, c2, c3, c4, decide_true, decide_false, if_true, if_false, Bool.false_eq_true, List.length_cons, List.length_nil] <;> omega
    obtain ⟨y, hy1, hy2, hy3⟩ := Neck.necklace (kd bs) (fun v => Neck.T (kd bs) bs.length v / 2) bs.length (kin bs) (fun u hu => kin_mem.2 ⟨hkind u hu, hpos u hu⟩) (fun v hv => by
      have h1 := evens_at he (kin_mem.1 hv).1
      have h2 := hTn v
      omega) hmore
    -- the first bead is the first thief's
    obtain ⟨y, hy0, hy1, hy2, hy3⟩ : ∃ y : Nat → Int, y 0 = 1 ∧ (∀ u, u < bs.length → y u = 1 ∨ y u = -1) ∧ Neck.ac y bs.length 0 0 ≤ (kin bs).length + 1 ∧ ∀ u, u < bs.length → Neck.P (kd bs) y bs.length (kd bs u) = Neck.T (kd bs) bs.length (kd bs u) / 2 := by
      rcases hy1 0 h0 with h | h
      · exact ⟨y, h, hy1, hy2, fun u hu => (hy3 u hu).1⟩
      · refine ⟨fun u => -y u, by show -y 0 = 1; omega, fun u hu => by have := hy1 u hu; show -y u = 1 ∨ -y u = -1; omega, ?_, fun u hu => by rw [Neck.P_neg]; exact (hy3 u hu).2⟩
        have := Neck.ac_neg y bs.length 0 0
        rw [show (-(0 : Int)) = 0 from rfl] at this
        rw [this]; exact hy2
    obtain ⟨d, hd⟩ : ∃ d, bs.length = d + 1 := ⟨bs.length - 1, by omega⟩
    have hcl := cf_len y bs.length hy1 d 1 (Nat.le_refl _) (by omega)
    have hac : Neck.ac y bs.length 0 0 = Neck.ac y d 1 (y 0) + 1 := by
      rw [hd]
      show (if y 0 = 0 ∨ y 0 = 0 then _ else _) = _
      rw [if_neg (by omega)]
    refine ⟨(cf y d 1).length, by rw [hcl]; show Neck.ac y d 1 (y 0) ≤ _; omega, cf y d 1, ?_, ?_⟩
    · rw [← hlen]
      exact cf_ch y bs.length d 1 (by omega)
    · -- the signs of the cuts
      have hin : ∀ j : Nat, 1 ≤ j → j < bs.length → ((j : Int) ∈ cf y d 1 ↔ y j ≠ y (j - 1)) := fun j h1 h2 => by
        rw [cf_mem]
        exact ⟨fun h => h.2.2, fun h => ⟨h1, by omega, h⟩⟩
      have hsg : ∀ j, j < bs.length → rd (signsFn (cf y d 1) s.size 0 1) (j : Int) = y j := fun j hj => by
        rw [← hlen, hd]
        have h00 : ¬ among (cf y d 1) ((0 : Nat) : Int) (cf y d 1).length 0 = true := fun h => by
          have := (among_mem (cf y d 1) ((0 : Nat) : Int) (cf y d 1).length 0 (by omega)).1 h
          rw [List.drop_zero] at this
          have := (cf_mem y 0 d 1).1 this
          omega
        unfold signsFn
        rw [if_neg h00]
        cases j with
        | zero => rw [hy0]; rfl
        | succ j =>
          have := signs_of y bs.length hy1 (cf y d 1) hin d 1 (Nat.le_refl _) (by omega) j (by omega)
          rw [show y (1 - 1) = 1 from hy0] at this
          rw [show j + 1 = 1 + j by omega, ← this, rd_nat, rd_nat, Nat.add_comm 1 j]
          rfl
      have hmine : ∀ v, cn v (mine bs (signsFn (cf y d 1) s.size 0 1) s.size) = (Neck.P (kd bs) y bs.length v : Int) := fun v => by
        rw [← hlen]
        rw [← hlen] at hsg
        exact mine_cn bs y _ v hsg bs.length (Nat.le_refl _)
      have hfin : ∀ v, (v = 97 ∨ v = 98 ∨ v = 99 ∨ v = 100) → 2 * (Neck.P (kd bs) y bs.length v : Int) = cn v bs := fun v hv => by
        by_cases c : 0 < cn v bs
        · obtain ⟨u, hu, e⟩ : ∃ u, u < bs.length ∧ kd bs u = v := by
            have hc : 0 < bs.countP fun b => decide (b.toNat = v) := by unfold cn at c; omega
            obtain ⟨b, hb1, hb2⟩ := List.countP_pos_iff.1 hc
            obtain ⟨u, hu, e⟩ := List.getElem_of_mem hb1
            exact ⟨u, hu, by rw [kd_at hu, e]; exact of_decide_eq_true hb2⟩
          have h1 := hy3 u hu
          rw [e] at h1
          have h2 := hTn v
          have h3 := evens_at he hv
          omega
        · have h1 : Neck.P (kd bs) y bs.length v ≤ Neck.T (kd bs) bs.length v := Neck.ct_mono _ (fun u _ hu => (Bool.and_eq_true_iff.1 hu).1)
          have h2 := hTn v
          have h3 := (cn_le v bs).1
          omega
      unfold fairOf shareL
      rw [hbs]
      refine twice_of (fun i hi => ?_)
      have r1 := rd_cnt (mine bs (signsFn (cf y d 1) s.size 0 1) s.size)
      have r2 := rd_cnt bs
      match i with
      | 0 => rw [r1.1, r2.1, hmine]; exact hfin 97 (by decide)
      | 1 => rw [r1.2.1, r2.2.1, hmine]; exact hfin 98 (by decide)
      | 2 => rw [r1.2.2.1, r2.2.2.1, hmine]; exact hfin 99 (by decide)
      | 3 => rw [r1.2.2.2, r2.2.2.2, hmine]; exact hfin 100 (by decide)
      | n + 4 => omega
theorem fair_evens {s : ByteArray} {r : List Int} (h : fairOf s r = true) : evens s.data.toList = true := by
  unfold fairOf at h
  have r2 := rd_cnt s.data.toList
  have h0 := twice_at h 0 (by decide)
  have h1 := twice_at h 1 (by decide)
  have h2 := twice_at h 2 (by decide)
  have h3 := twice_at h 3 (by decide)
  rw [r2.1] at h0
  rw [r2.2.1] at h1
  rw [r2.2.2.1] at h2
  rw [r2.2.2.2] at h3
  unfold evens
  rw [decide_eq_true (show cn 97 s.data.toList % 2 = 0 by omega), decide_eq_true (show cn 98 s.data.toList % 2 = 0 by omega), decide_eq_true (show cn 99 s.data.toList % 2 = 0 by omega), decide_eq_true (show cn 100 s.data.toList % 2 = 0 by omega)]
  rfl
/-! ### the searches -/
def fl (s : ByteArray) (m : Nat) : List (List Int) := (ch s.size m 1).filter (fairOf s)
/-- The first fair list with the fewest cuts, of d numbers of cuts from m on. -/
def lst (F : Nat → List (List Int)) : Nat → Nat → Option (List Int)
  | 0, _ => none
  | d + 1, m => match F m with
    | [] => lst F d (m + 1)
    | r :: _ => some r
theorem lst_none (F : Nat → List (List Int)) (h : ∀ m, F m = []) : ∀ d m, lst F d m = none
  | 0, _ => rfl
  | d + 1, m => by unfold lst; rw [h m]; exact lst_none F h d (m + 1)
theorem lst_some (F : Nat → List (List Int)) (n : Nat) (hn : F n ≠ []) : ∀ d m, m ≤ n → n < m + d → ∃ r, lst F d m = some r
  | 0, m, h1, h2 => by omega
  | d + 1, m, h1, h2 => by
    unfold lst
    cases hf : F m with
    | cons r q => exact ⟨r, rfl⟩
    | nil =>
      rcases Nat.lt_or_ge m n with h3 | h3
      · exact lst_some F n hn d (m + 1) h3 (by omega)
      · have : m = n := by omega
        subst this
        exact absurd hf hn
/-- What is found is fair, of as few cuts as there can be. -/
theorem lst_at (F : Nat → List (List Int)) (r : List Int) : ∀ d m, lst F d m = some r → ∃ j, m ≤ j ∧ j < m + d ∧ r ∈ F j ∧ ∀ i, m ≤ i → i < j → F i = []
  | 0, _, h => by cases h
  | d + 1, m, h => by
    unfold lst at h
    cases hf : F m with
    | cons x q =>
      rw [hf] at h
      have : x = r := Option.some.inj h
      subst this
      exact ⟨m, Nat.le_refl _, by omega, by rw [hf]; exact List.mem_cons_self, fun i h1 h2 => by omega⟩
    | nil =>
      rw [hf] at h
      obtain ⟨j, h1, h2, h3, h4⟩ := lst_at F r d (m + 1) h
      refine ⟨j, by omega, by omega, h3, fun i h5 h6 => ?_⟩
      rcases Nat.lt_or_ge m i with h7 | h7
      · exact h4 i h7 h6
      · have : i = m := by omega
        rw [this, hf]
def told (o : Option (List Int)) : List Int × Bool := match o with
  | some r => (r, true)
  | none => ([], false)
theorem least_loop (s : ByteArray) (hb : beads s = true) (hs : s.size ≤ 16) : ∀ d m : Nat, m + d = 5 → Ev (fun k => impl_leastSplit.l0 k s (m : Int)) (told (lst (fl s) d m))
  | 0, m, h => Ev.step (fun f => impl_leastSplit.l0.eq_2 ..) (ev_neg (by omega) (Ev.now _))
  | d + 1, m, h => by
    refine Ev.step (fun f => impl_leastSplit.l0.eq_2 ..) (ev_pos (by omega) (Ev.bind (fairCuts_ev s hb hs m (by omega)) ?_))
    have ih := least_loop s hb hs d (m + 1) (by omega)
    have hw : wrap64 ((m : Int) + 1) = ((m + 1 : Nat) : Int) := by rw [wr (by omega) (by omega)]; omega
    rw [hw]
    unfold lst
    cases hf : fl s m with
    | nil =>
      have hf : (ch s.size m 1).filter (fairOf s) = [] := hf
      rw [hf]
      exact ev_neg (by simp) ih
    | cons r q =>
      have hf : (ch s.size m 1).filter (fairOf s) = r :: q := hf
      rw [hf]
      exact ev_pos (by simp) (Ev.now _)
theorem leastSplit_ev (s : ByteArray) (hb : beads s = true) (hs : s.size ≤ 16) : Ev (fun k => impl_leastSplit.f k s) (told (lst (fl s) 5 0)) := least_loop s hb hs 5 0 rfl
theorem first_loop (s : ByteArray) (hb : beads s = true) (hs : s.size ≤ 16) (r : List Int) : ∀ d m : Nat, m + d = 5 → lst (fl s) d m = some r → Ev (fun k => spec_nlFirst.l0 k s (m : Int)) r
  | 0, m, h, hl => by cases hl
  | d + 1, m, h, hl => by
    have h1 := splits_ev s hb hs m (by omega) [] 1 (.inl ⟨rfl, rfl⟩) (by omega) (by simp; omega)
    have e3 : (ch s.size m 1).map (fun r => ([] : List Int) ++ r) = ch s.size m 1 := by simp
    rw [e3] at h1
    refine Ev.step (fun f => spec_nlFirst.l0.eq_2 ..) (Ev.bind h1 ?_)
    have hw : wrap64 ((m : Int) + 1) = ((m + 1 : Nat) : Int) := by rw [wr (by omega) (by omega)]; omega
    rw [hw]
    unfold lst at hl
    cases hf : fl s m with
    | nil =>
      rw [hf] at hl
      have hf : (ch s.size m 1).filter (fairOf s) = [] := hf
      refine ev_neg ?_ (first_loop s hb hs r d (m + 1) (by omega) hl)
      unfold sp
      rw [hf]; simp
    | cons x q =>
      rw [hf] at hl
      have hf : (ch s.size m 1).filter (fairOf s) = x :: q := hf
      have : x = r := Option.some.inj hl
      subst this
      refine ev_pos ?_ (ev_eq (Ev.now _) ?_)
      · unfold sp; rw [hf]; simp
      · unfold sp; rw [hf]; rfl
theorem even_tail (l : List Int) (h4 : l.length = 4) (h0 : ∀ i : Nat, 0 ≤ rd l (i : Int)) : ∀ d i : Nat, i + d = 4 → Ev (fun k => spec_nlEven.l0 k l (l.length : Int) (i : Int)) ((List.range' i d).all fun j => decide (rd l (j : Int) % 2 = 0))
  | 0, i, h => Ev.step (fun f => spec_nlEven.l0.eq_2 ..) (ev_neg (by omega) (Ev.now _))
  | d + 1, i, h => by
    have h1 := h0 i
    refine Ev.step (fun f => spec_nlEven.l0.eq_2 ..) (ev_pos (by omega) (ev_pos (by omega) (ev_pos (by omega) ?_)))
    rw [Int.tmod_eq_emod_of_nonneg h1, wr (show -9223372036854775808 ≤ (i : Int) + 1 by omega) (by omega), List.range'_succ, List.all_cons]
    by_cases hc : (rd l (i : Int)) % 2 = 1
    · rw [decide_eq_false (by omega), Bool.false_and]; exact ev_pos hc (Ev.now _)
    · rw [decide_eq_true (by omega), Bool.true_and]; exact ev_neg hc (even_tail l h4 h0 d (i + 1) (by omega))
theorem nlEven_ev (s : ByteArray) (hb : beads s = true) (hs : s.size ≤ 16) : Ev (fun k => spec_nlEven.f k s) (evens s.data.toList) := by
  refine Ev.bind (nlCounts_ev s hb (by omega)) (ev_eq (even_tail _ (cntL_len _) (fun i => (cntL_le s.data.toList i).1) 4 0 rfl) ?_)
  have r := rd_cnt s.data.toList
  show (decide (rd (cntL s.data.toList) ((0 : Nat) : Int) % 2 = 0) && (decide (rd (cntL s.data.toList) ((1 : Nat) : Int) % 2 = 0) && (decide (rd (cntL s.data.toList) ((2 : Nat) : Int) % 2 = 0) && (decide (rd (cntL s.data.toList) ((3 : Nat) : Int) % 2 = 0) && true)))) = _
  rw [r.1, r.2.1, r.2.2.1, r.2.2.2]
  unfold evens
  simp only [Bool.and_true, Bool.and_assoc]
theorem fl_some (s : ByteArray) (hb : beads s = true) (hs : s.size ≤ 16) (he : evens s.data.toList = true) : ∃ r, lst (fl s) 5 0 = some r := by
  obtain ⟨m, hm, r, hr, hf⟩ := fair_some s hb hs he
  have := kin_le s.data.toList
  refine lst_some (fl s) m (fun z => ?_) 5 0 (Nat.zero_le _) (by omega)
  have : r ∈ fl s m := List.mem_filter.2 ⟨hr, hf⟩
  rw [z] at this
  cases this
theorem fl_none (s : ByteArray) (he : evens s.data.toList = false) : lst (fl s) 5 0 = none := lst_none _ (fun m => by
  unfold fl
  refine List.filter_eq_nil_iff.2 (fun r _ hf => ?_)
  rw [fair_evens hf] at he
  cases he) 5 0
theorem lst_len (s : ByteArray) (r : List Int) (h : lst (fl s) 5 0 = some r) : r.length ≤ 4 := by
  obtain ⟨j, h1, h2, h3, _⟩ := lst_at (fl s) r 5 0 h
  have := ch_mem s.size j 1 r (List.mem_filter.1 h3).1
  omega
end Go.Proofs.YthkdkgbcokpbaacGreatDoor.QFnNecklacesShared
/-! Sorted beads: what the program and the reference tell. -/
namespace Go.Proofs.YthkdkgbcokpbaacGreatDoor.QFnNecklacesShared.Srt
open Go.RowKit Go.Proofs.YthkdkgbcokpbaacGreatDoor.PFnNecklacesShared Go.Proofs.YthkdkgbcokpbaacGreatDoorW.PrintWords Go.Proofs.YthkdkgbcokpbaacGreatDoorW.PrintLast Go.Proofs.YthkdkgbcokpbaacGreatDoorW.PrintMore
set_option linter.unusedVariables false
set_option linter.unusedSimpArgs false
set_option maxRecDepth 100000
theorem in_spec (a b c : Int) : spec_l1In.f a b c = some (decide (b ≤ a ∧ a ≤ c)) := by
  unfold spec_l1In.f
  by_cases h : a ≥ b
  · rw [if_pos h]; simp [show b ≤ a from h]
  · rw [if_neg h]; simp [show ¬ b ≤ a from h]
theorem in_impl (a b c : Int) : impl_in.f a b c = some (decide (b ≤ a ∧ a ≤ c)) := by
  unfold impl_in.f
  by_cases h : b ≤ a
  · rw [if_pos h]; simp [h]
  · rw [if_neg h]; simp [h]
theorem rd_at {l : List Int} {i : Nat} (h : i < l.length) : rd l (i : Int) = l[i] := by rw [rd_nat, List.getD_eq_getElem?_getD, List.getElem?_eq_getElem h]; rfl
/-- All numbers are from 0 to 16. -/
def okB (l : List Int) : Bool := l.all (fun x => decide (0 ≤ x ∧ x ≤ 16))
theorem all_loop (l : List Int) (hl : l.length ≤ 1048576) : ∀ d i : Nat, i + d = l.length → Ev (fun k => spec_l1All.l0 k 0 16 l (l.length : Int) (i : Int)) (okB (l.drop i))
  | 0, i, h => Ev.step (fun f => spec_l1All.l0.eq_2 ..) (ev_neg (by omega) (ev_eq (Ev.now _) (by rw [List.drop_eq_nil_of_le (by omega)]; rfl)))
  | d + 1, i, h => by
    have hlt : i < l.length := by omega
    refine Ev.step (fun f => spec_l1All.l0.eq_2 ..) (ev_pos (by omega) (ev_pos (by omega) (ev_pos (by omega) (ev_bind0 (in_spec _ _ _) ?_))))
    unfold okB
    rw [List.drop_eq_getElem_cons hlt, List.all_cons, rd_at hlt, wr (show -9223372036854775808 ≤ (i : Int) + 1 by omega) (by omega)]
    by_cases hc : 0 ≤ l[i] ∧ l[i] ≤ 16
    · rw [decide_eq_true hc, Bool.true_and]
      exact ev_pos rfl (all_loop l hl d (i + 1) (by omega))
    · rw [decide_eq_false hc, Bool.false_and]
      exact ev_neg (by decide) (Ev.now _)
theorem bad_one (x : Int) : impl_SortedBeads_1.f x = some (!decide (0 ≤ x ∧ x ≤ 16)) := by
  unfold impl_SortedBeads_1.f
  rw [in_impl]; rfl
theorem bad_loop (l : List Int) (hl : l.length ≤ 1048576) : ∀ d i : Nat, i + d = l.length → ∃ r : Int, Ev (fun k => slices_IndexFunc_int_int__impl_SortedBeads_1.l0 k l (l.length : Int) (i : Int)) r ∧ decide (r ≥ 0) = !okB (l.drop i)
  | 0, i, h => ⟨-1, Ev.step (fun f => slices_IndexFunc_int_int__impl_SortedBeads_1.l0.eq_2 ..) (ev_neg (by omega) (Ev.now _)), by rw [List.drop_eq_nil_of_le (by omega)]; rfl⟩
  | d + 1, i, h => by
    have hlt : i < l.length := by omega
    by_cases hc : 0 ≤ l[i] ∧ l[i] ≤ 16
    · obtain ⟨r, h1, h2⟩ := bad_loop l hl d (i + 1) (by omega)
      refine ⟨r, Ev.step (fun f => slices_IndexFunc_int_int__impl_SortedBeads_1.l0.eq_2 ..) (ev_pos (by omega) (ev_pos (by omega) (ev_pos (by omega) (ev_bind0 (bad_one _) (ev_neg (by rw [rd_at hlt, decide_eq_true hc]; decide) ?_))))), ?_⟩
      · rw [wr (by omega) (by omega)]; exact h1
      · rw [h2]
        unfold okB
        rw [List.drop_eq_getElem_cons hlt, List.all_cons, decide_eq_true hc, Bool.true_and]
    · refine ⟨i, Ev.step (fun f => slices_IndexFunc_int_int__impl_SortedBeads_1.l0.eq_2 ..) (ev_pos (by omega) (ev_pos (by omega) (ev_pos (by omega) (ev_bind0 (bad_one _) (ev_pos (by rw [rd_at hlt, decide_eq_false hc]; rfl) (Ev.now _)))))), ?_⟩
      unfold okB
      rw [List.drop_eq_getElem_cons hlt, List.all_cons, decide_eq_false hc, Bool.false_and, decide_eq_true (by omega)]
      rfl
theorem bad_ev (l : List Int) (hl : l.length ≤ 1048576) : Ev (fun k => slices_ContainsFunc_int_int__impl_SortedBeads_1.f k l) (!okB l) := by
  obtain ⟨r, h1, h2⟩ := bad_loop l hl l.length 0 (by omega)
  rw [List.drop_zero] at h2
  exact Ev.bind h1 (ev_eq (Ev.now _) h2)
def bc (i : Nat) : UInt8 := UInt8.ofNat (97 + i)
theorem letter {i : Nat} (h : i < 4) : (⟨#[97, 98, 99, 100]⟩ : ByteArray).extract ((i : Int)).toNat ((i : Int) + 1).toNat = ⟨[bc i].toArray⟩ := by
  match i, h with
  | 0, _ => rfl
  | 1, _ => rfl
  | 2, _ => rfl
  | 3, _ => rfl
theorem append_list (a b : List UInt8) : (⟨a.toArray⟩ : ByteArray) ++ ⟨b.toArray⟩ = ⟨(a ++ b).toArray⟩ := by
  apply ByteArray.ext
  rw [ByteArray.data_append]
  simp
theorem size_mk (a : List UInt8) : (⟨a.toArray⟩ : ByteArray).size = a.length := by
  show a.toArray.size = a.length
  simp
/-- The beads of d kinds from the kind i on. -/
def sbL (l : List Int) : Nat → Nat → List UInt8
  | 0, _ => []
  | d + 1, i => List.replicate (rd l (i : Int)).toNat (bc i) ++ sbL l d (i + 1)
def sm (l : List Int) : Nat → Nat → Int
  | 0, _ => 0
  | d + 1, i => rd l (i : Int) + sm l d (i + 1)
theorem sbL_len (l : List Int) (h0 : ∀ i : Nat, i < 4 → 0 ≤ rd l (i : Int) ∧ rd l (i : Int) ≤ 16) : ∀ d i : Nat, i + d = 4 → ((sbL l d i).length : Int) = sm l d i ∧ 0 ≤ sm l d i ∧ sm l d i ≤ 16 * d
  | 0, i, h => ⟨rfl, by simp [sm], by simp [sm]⟩
  | d + 1, i, h => by
    have ih := sbL_len l h0 d (i + 1) (by omega)
    have hx := h0 i (by omega)
    unfold sbL sm
    rw [List.length_append, List.length_replicate]
    omega
def fin (bs : List UInt8) : ByteArray × Bool := if bs.length > 16 then ((⟨#[]⟩ : ByteArray), false) else (⟨bs.toArray⟩, true)
theorem l1_loop (l : List Int) (i : Nat) (hi : i < 4) (R : ByteArray × Bool) : ∀ (m : Nat) (acc : List UInt8), acc.length + m ≤ 1000 → Ev (fun k => spec_SortedBeads.l0 k ⟨(acc ++ List.replicate m (bc i)).toArray⟩ l (l.length : Int) (wrap64 ((i : Int) + 1))) R →
    Ev (fun k => spec_SortedBeads.l1 k ⟨acc.toArray⟩ (i : Int) (m : Int) l (l.length : Int) (i : Int)) R
  | 0, acc, h, cont => by
    rw [List.replicate_zero, List.append_nil] at cont
    exact Ev.step (fun f => spec_SortedBeads.l1.eq_2 ..) (ev_neg (by omega) cont)
  | m + 1, acc, h, cont => by
    refine Ev.step (fun f => spec_SortedBeads.l1.eq_2 ..) (ev_pos (by omega) (ev_pos (by omega) ?_))
    rw [wr (show -9223372036854775808 ≤ (i : Int) + 1 by omega) (by omega), letter hi, wr (show -9223372036854775808 ≤ ((m + 1 : Nat) : Int) - 1 by omega) (by omega), append_list, size_mk, size_mk, show ((m + 1 : Nat) : Int) - 1 = (m : Int) by omega]
    refine ev_pos (by omega) (ev_pos (by omega) (ev_pos (by simp; omega) ?_))
    refine l1_loop l i hi R m (acc ++ [bc i]) (by simp; omega) ?_
    rw [List.append_assoc]
    exact cont
theorem spec_loop (l : List Int) (h4 : l.length = 4) (h0 : ∀ i : Nat, i < 4 → 0 ≤ rd l (i : Int) ∧ rd l (i : Int) ≤ 16) : ∀ (d i : Nat) (acc : List UInt8), i + d = 4 → acc.length ≤ 16 * i →
    Ev (fun k => spec_SortedBeads.l0 k ⟨acc.toArray⟩ l (l.length : Int) (i : Int)) (fin (acc ++ sbL l d i))
  | 0, i, acc, h, ha => by
    refine Ev.step (fun f => spec_SortedBeads.l0.eq_2 ..) (ev_neg (by omega) ?_)
    unfold fin sbL
    rw [List.append_nil, size_mk]
    by_cases hc : acc.length > 16
    · rw [if_pos hc]; exact ev_pos (by omega) (Ev.now _)
    · rw [if_neg hc]; exact ev_neg (by omega) (Ev.now _)
  | d + 1, i, acc, h, ha => by
    have hx := h0 i (by omega)
    refine Ev.step (fun f => spec_SortedBeads.l0.eq_2 ..) (ev_pos (by omega) (ev_pos (by omega) (ev_pos (by omega) ?_)))
    have e : rd l (i : Int) = (((rd l (i : Int)).toNat : Nat) : Int) := by omega
    have ih := spec_loop l h4 h0 d (i + 1) (acc ++ List.replicate (rd l (i : Int)).toNat (bc i)) (by omega) (by rw [List.length_append, List.length_replicate]; omega)
    have := l1_loop l i (by omega) (fin (acc ++ sbL l (d + 1) i)) (rd l (i : Int)).toNat acc (by omega) (by
      rw [wr (by omega) (by omega)]
      unfold sbL
      rw [← List.append_assoc]
      exact ih)
    rw [← e] at this
    exact this
theorem rep_one (c : UInt8) : ∀ n : Nat, Go.Lib.repeatL [c] n = List.replicate n c := by
  intro n
  induction n with
  | zero => rfl
  | succ n ih => simp [Go.Lib.repeatL, List.replicate_succ] at ih ⊢; exact ih
theorem impl_loop (l : List Int) (h4 : l.length = 4) (h0 : ∀ i : Nat, i < 4 → 0 ≤ rd l (i : Int) ∧ rd l (i : Int) ≤ 16) : ∀ (d i : Nat) (acc : List UInt8), i + d = 4 → acc.length ≤ 16 * i →
    Ev (fun k => impl_SortedBeads.l0 k ⟨acc.toArray⟩ l (l.length : Int) (i : Int)) (⟨(acc ++ sbL l d i).toArray⟩, true)
  | 0, i, acc, h, ha => Ev.step (fun f => impl_SortedBeads.l0.eq_2 ..) (ev_neg (by omega) (ev_eq (Ev.now _) (by unfold sbL; rw [List.append_nil])))
  | d + 1, i, acc, h, ha => by
    have hx := h0 i (by omega)
    refine Ev.step (fun f => impl_SortedBeads.l0.eq_2 ..) (ev_pos (by omega) (ev_pos (by omega) (ev_pos (by omega) ?_)))
    rw [wr (show -9223372036854775808 ≤ (i : Int) + 1 by omega) (by omega), letter (by omega : i < 4)]
    refine ev_pos (by omega) (ev_pos (by omega) ?_)
    have hr : strings_Repeat.f ⟨[bc i].toArray⟩ (rd l (i : Int)) = some ⟨(List.replicate (rd l (i : Int)).toNat (bc i)).toArray⟩ := by
      unfold strings_Repeat.f
      rw [if_pos]
      · rw [← rep_one]
      · rw [size_mk]
        simp
        omega
    refine ev_bind0 hr ?_
    rw [append_list, size_mk, size_mk]
    refine ev_pos (by rw [List.length_replicate]; omega) ?_
    have := impl_loop l h4 h0 d (i + 1) (acc ++ List.replicate (rd l (i : Int)).toNat (bc i)) (by omega) (by rw [List.length_append, List.length_replicate]; omega)
    unfold sbL
    rw [← List.append_assoc]
    exact this
theorem sum_loop (l : List Int) (h4 : l.length = 4) (h0 : ∀ i : Nat, i < 4 → 0 ≤ rd l (i : Int) ∧ rd l (i : Int) ≤ 16) : ∀ (d i : Nat) (a : Int), i + d = 4 → 0 ≤ a → a ≤ 16 * i →
    Ev (fun k => impl_sum.l0 k a l (l.length : Int) (i : Int)) (a + sm l d i)
  | 0, i, a, h, ha, hb => Ev.step (fun f => impl_sum.l0.eq_2 ..) (ev_neg (by omega) (ev_eq (Ev.now _) (by simp [sm])))
  | d + 1, i, a, h, ha, hb => by
    have hx := h0 i (by omega)
    refine Ev.step (fun f => impl_sum.l0.eq_2 ..) (ev_pos (by omega) (ev_pos (by omega) (ev_pos (by omega) ?_)))
    rw [wr (show -9223372036854775808 ≤ (i : Int) + 1 by omega) (by omega), wr (show -9223372036854775808 ≤ a + rd l (i : Int) by omega) (by omega)]
    have := sum_loop l h4 h0 d (i + 1) (a + rd l (i : Int)) (by omega) (by omega) (by omega)
    unfold sm
    rw [← Int.add_assoc]
    exact this
def resS (l : List Int) : ByteArray × Bool := if l.length = 4 ∧ okB l = true then fin (sbL l 4 0) else ((⟨#[]⟩ : ByteArray), false)
theorem okB_rd {l : List Int} (h4 : l.length = 4) (h : okB l = true) : ∀ i : Nat, i < 4 → 0 ≤ rd l (i : Int) ∧ rd l (i : Int) ≤ 16 := fun i hi => by
  have hlt : i < l.length := by omega
  rw [rd_at hlt]
  exact of_decide_eq_true (List.all_eq_true.1 h _ (List.getElem_mem hlt))
theorem spec_ev (l : List Int) (hl : l.length ≤ 1048576) : Ev (fun k => spec_SortedBeads.f k l) (resS l) := by
  unfold resS
  have bad : Ev (fun k => spec_SortedBeads.j0 k l true) ((⟨#[]⟩ : ByteArray), false) := Ev.step (fun f => spec_SortedBeads.j0.eq_2 ..) (ev_pos rfl (Ev.now _))
  by_cases h4 : l.length = 4
  · have ha := all_loop l hl l.length 0 (by omega)
    rw [List.drop_zero] at ha
    refine ev_pos (by omega) (Ev.bind ha ?_)
    cases hk : okB l with
    | false => rw [if_neg (fun z => by cases z.2)]; exact bad
    | true =>
      rw [if_pos ⟨h4, rfl⟩]
      refine Ev.step (fun f => spec_SortedBeads.j0.eq_2 ..) (ev_neg (by decide) ?_)
      exact spec_loop l h4 (okB_rd h4 hk) 4 0 [] rfl (by simp)
  · rw [if_neg (fun z => h4 z.1)]
    exact ev_neg (by omega) bad
theorem impl_ev (l : List Int) (hl : l.length ≤ 1048576) : Ev (fun k => impl_SortedBeads.f k l) (resS l) := by
  unfold resS
  have bad : Ev (fun k => impl_SortedBeads.j0 k l true) ((⟨#[]⟩ : ByteArray), false) := Ev.step (fun f => impl_SortedBeads.j0.eq_2 ..) (ev_pos rfl (Ev.now _))
  by_cases h4 : l.length = 4
  · have ha := bad_ev l hl
    refine ev_pos (by omega) (Ev.bind ha ?_)
    cases hk : okB l with
    | false => rw [if_neg (fun z => by cases z.2)]; exact ev_pos rfl bad
    | true =>
      rw [if_pos ⟨h4, rfl⟩]
      have h0 := okB_rd h4 hk
      have hs := sum_loop l h4 h0 4 0 0 rfl (by omega) (by omega)
      have hn := sbL_len l h0 4 0 rfl
      refine ev_neg (by decide) (Ev.bind hs ?_)
      rw [Int.zero_add]
      unfold fin
      by_cases hc : sm l 4 0 > 16
      · rw [decide_eq_true hc, if_pos (by omega)]
        exact bad
      · rw [decide_eq_false hc, if_neg (by omega)]
        exact Ev.step (fun f => impl_SortedBeads.j0.eq_2 ..) (ev_neg (by decide) (impl_loop l h4 h0 4 0 [] rfl (by simp)))
  · rw [if_neg (fun z => h4 z.1)]
    exact ev_neg (by omega) bad
end Go.Proofs.YthkdkgbcokpbaacGreatDoor.QFnNecklacesShared.Srt
/-! Beads with other kinds: what the program and the reference tell. -/
namespace Go.Proofs.YthkdkgbcokpbaacGreatDoor.QFnNecklacesShared.Ren
open Go.RowKit Go.Proofs.YthkdkgbcokpbaacGreatDoor.PFnNecklacesShared Go.Proofs.YthkdkgbcokpbaacGreatDoorW.PrintWords Go.Proofs.YthkdkgbcokpbaacGreatDoorW.PrintLast Go.Proofs.YthkdkgbcokpbaacGreatDoorW.PrintMore
set_option linter.unusedVariables false
set_option linter.unusedSimpArgs false
set_option maxRecDepth 100000
theorem in_spec (a b c : Int) : spec_l1In.f a b c = some (decide (b ≤ a ∧ a ≤ c)) := by
  unfold spec_l1In.f
  by_cases h : a ≥ b
  · rw [if_pos h]; simp [show b ≤ a from h]
  · rw [if_neg h]; simp [show ¬ b ≤ a from h]
/-! ### sorted rows -/
theorem sorted_eq : ∀ l m : List Int, l.Pairwise (fun a b => a ≤ b) → m.Pairwise (fun a b => a ≤ b) → l.Perm m → l = m
  | [], m, _, _, h => h.nil_eq
  | a :: l, [], _, _, h => by have := h.length_eq; simp at this
  | a :: l, b :: m, h1, h2, h => by
    have ha : a ∈ b :: m := h.mem_iff.1 (List.mem_cons_self)
    have hb : b ∈ a :: l := h.mem_iff.2 (List.mem_cons_self)
    have e1 : b ≤ a := by
      rcases List.mem_cons.1 ha with e | e
      · omega
      · exact (List.pairwise_cons.1 h2).1 a e
    have e2 : a ≤ b := by
      rcases List.mem_cons.1 hb with e | e
      · omega
      · exact (List.pairwise_cons.1 h1).1 b e
    have e : a = b := by omega
    subst e
    rw [sorted_eq l m (List.pairwise_cons.1 h1).2 (List.pairwise_cons.1 h2).2 ((List.perm_cons a).1 h)]
def srt (l : List Int) : List Int := l.mergeSort fun x y => decide (x ≤ y)
theorem srt_perm (l : List Int) : (srt l).Perm l := List.mergeSort_perm _ _
theorem srt_sorted (l : List Int) : (srt l).Pairwise (fun a b => a ≤ b) := by
  have := List.pairwise_mergeSort (le := fun x y : Int => decide (x ≤ y)) (by intro a b c; simp; omega) (by intro a b; simp; omega) l
  exact this.imp (fun h => by simpa using h)
/-- The four kinds, each once. -/
def permB (l : List Int) : Bool := decide (l.length = 4) && (l.all (fun x => decide (0 ≤ x ∧ x ≤ 3)) && decide l.Nodup)
theorem four : ∀ a b c d : Fin 4, [a, b, c, d].Nodup → ([a, b, c, d].map fun x : Fin 4 => ((x.val : Nat) : Int)).Perm [0, 1, 2, 3] := by decide +kernel
theorem fin_of {x : Int} (h : 0 ≤ x ∧ x ≤ 3) : ∃ a : Fin 4, ((a.val : Nat) : Int) = x := ⟨⟨x.toNat, by omega⟩, by simp; omega⟩
theorem permB_srt (l : List Int) : permB l = decide (srt l = [0, 1, 2, 3]) := by
  by_cases h : srt l = [0, 1, 2, 3]
  · rw [decide_eq_true h]
    have hp : l.Perm [0, 1, 2, 3] := h ▸ (srt_perm l).symm
    unfold permB
    rw [decide_eq_true (show l.length = 4 from hp.length_eq), decide_eq_true (show l.Nodup from hp.nodup_iff.2 (by decide)), Bool.true_and, Bool.and_true]
    refine List.all_eq_true.2 fun x hx => ?_
    have := hp.mem_iff.1 hx
    simp at this
    exact decide_eq_true (by omega)
  · rw [decide_eq_false h]
    cases hb : permB l with
    | false => rfl
    | true =>
      exfalso
      unfold permB at hb
      simp only [Bool.and_eq_true, decide_eq_true_eq] at hb
      obtain ⟨h1, h2, h3⟩ := hb
      apply h
      refine sorted_eq _ _ (srt_sorted l) (by decide) ((srt_perm l).trans ?_)
      match l, h1, h2, h3 with
      | [x, y, z, u], _, h2, h3 =>
        have hx := fun v (hv : v ∈ [x, y, z, u]) => of_decide_eq_true (List.all_eq_true.1 h2 v hv)
        obtain ⟨a, rfl⟩ := fin_of (hx x (by simp))
        obtain ⟨b, rfl⟩ := fin_of (hx y (by simp))
        obtain ⟨c, rfl⟩ := fin_of (hx z (by simp))
        obtain ⟨d, rfl⟩ := fin_of (hx u (by simp))
        refine four a b c d ?_
        have : ([a, b, c, d].map fun x : Fin 4 => ((x.val : Nat) : Int)).Nodup := h3
        exact (List.pairwise_map.1 this).imp (fun hne e => hne (by rw [e]))
theorem all_loop (l : List Int) (hl : l.length ≤ 1048576) : ∀ d i : Nat, i + d = l.length → Ev (fun k => spec_l1All.l0 k 0 3 l (l.length : Int) (i : Int)) ((l.drop i).all (fun x => decide (0 ≤ x ∧ x ≤ 3)))
  | 0, i, h => Ev.step (fun f => spec_l1All.l0.eq_2 ..) (ev_neg (by omega) (ev_eq (Ev.now _) (by rw [List.drop_eq_nil_of_le (by omega)]; rfl)))
  | d + 1, i, h => by
    have hlt : i < l.length := by omega
    have hr : rd l (i : Int) = l[i] := by rw [rd_nat, List.getD_eq_getElem?_getD, List.getElem?_eq_getElem hlt]; rfl
    refine Ev.step (fun f => spec_l1All.l0.eq_2 ..) (ev_pos (by omega) (ev_pos (by omega) (ev_pos (by omega) (ev_bind0 (in_spec _ _ _) ?_))))
    rw [List.drop_eq_getElem_cons hlt, List.all_cons, hr, wr (show -9223372036854775808 ≤ (i : Int) + 1 by omega) (by omega)]
    by_cases hc : 0 ≤ l[i] ∧ l[i] ≤ 3
    · rw [decide_eq_true hc, Bool.true_and]
      exact ev_pos rfl (all_loop l hl d (i + 1) (by omega))
    · rw [decide_eq_false hc, Bool.false_and]
      exact ev_neg (by decide) (Ev.now _)
theorem has_loop (l : List Int) (x : Int) (hl : l.length ≤ 1048576) : ∀ d i : Nat, i + d = l.length → Ev (fun k => spec_l1Has.l0 k x l (l.length : Int) (i : Int)) ((l.drop i).any (fun y => decide (y = x)))
  | 0, i, h => Ev.step (fun f => spec_l1Has.l0.eq_2 ..) (ev_neg (by omega) (ev_eq (Ev.now _) (by rw [List.drop_eq_nil_of_le (by omega)]; rfl)))
  | d + 1, i, h => by
    have hlt : i < l.length := by omega
    have hr : rd l (i : Int) = l[i] := by rw [rd_nat, List.getD_eq_getElem?_getD, List.getElem?_eq_getElem hlt]; rfl
    refine Ev.step (fun f => spec_l1Has.l0.eq_2 ..) (ev_pos (by omega) (ev_pos (by omega) (ev_pos (by omega) ?_)))
    rw [List.drop_eq_getElem_cons hlt, List.any_cons, hr, wr (show -9223372036854775808 ≤ (i : Int) + 1 by omega) (by omega)]
    by_cases hc : l[i] = x
    · rw [decide_eq_true hc, Bool.true_or]
      exact ev_pos hc (Ev.now _)
    · rw [decide_eq_false hc, Bool.false_or]
      exact ev_neg hc (has_loop l x hl d (i + 1) (by omega))
theorem extract_one {s : ByteArray} {i : Nat} {b : UInt8} (h : s.data.toList[i]? = some b) : s.extract i (i + 1) = ⟨#[b]⟩ := by
  have hl := (List.getElem?_eq_some_iff.1 h).1
  have h2 := (List.getElem?_eq_some_iff.1 h).2
  apply ByteArray.ext
  rw [ByteArray.data_extract]
  apply Array.ext'
  rw [Array.toList_extract, List.extract_eq_take_drop]
  rw [List.drop_eq_getElem_cons hl, h2]
  simp
theorem append_list (a b : List UInt8) : (⟨a.toArray⟩ : ByteArray) ++ ⟨b.toArray⟩ = ⟨(a ++ b).toArray⟩ := by
  apply ByteArray.ext
  rw [ByteArray.data_append]
  simp
theorem letter {x : Int} (h : 0 ≤ x ∧ x ≤ 3) : (⟨#[97, 98, 99, 100]⟩ : ByteArray).extract x.toNat (x + 1).toNat = ⟨#[UInt8.ofNat (97 + x.toNat)]⟩ := by
  obtain ⟨a, rfl⟩ := fin_of h
  have e : (((a.val : Nat) : Int) + 1).toNat = a.val + 1 := by omega
  rw [e, Int.toNat_natCast]
  exact extract_one (by revert a; decide)
theorem ren_loop (s : ByteArray) (l : List Int) (hb : beads s = true) (hs : s.size ≤ 16) (h4 : l.length = 4) (hl : ∀ i : Nat, i < 4 → 0 ≤ rd l (i : Int) ∧ rd l (i : Int) ≤ 3) :
    ∀ d i : Nat, i + d = s.size → Ev (fun k => spec_RenameBeads.l1 k s l ⟨((s.data.toList.take i).map (renB l)).toArray⟩ (i : Int)) (⟨(s.data.toList.map (renB l)).toArray⟩, true)
  | 0, i, h => Ev.step (fun f => spec_RenameBeads.l1.eq_2 ..) (ev_neg (by omega) (ev_eq (Ev.now _) (by rw [List.take_of_length_le (by rw [size_list]; omega)])))
  | d + 1, i, h => by
    obtain ⟨b, hg⟩ := get_lt (s := s) (i := i) (by omega)
    have hbd : 97 ≤ b.toNat ∧ b.toNat ≤ 100 := of_decide_eq_true (bead_at hb hg)
    have e : ((b.toNat : Int) - 97) % 256 = (b.toNat : Int) - 97 := by omega
    have hx := hl (b.toNat - 97) (by omega)
    have e1 : ((b.toNat - 97 : Nat) : Int) = (b.toNat : Int) - 97 := by omega
    rw [e1] at hx
    have hz : (⟨((s.data.toList.take i).map (renB l)).toArray⟩ : ByteArray).size ≤ 16 := by
      show ((s.data.toList.take i).map (renB l)).toArray.size ≤ 16
      have := size_list s
      simp
      omega
    refine Ev.step (fun f => spec_RenameBeads.l1.eq_2 ..) (ev_pos (by omega) (ev_pos (by omega) ?_))
    rw [bt_get hg, e, wr (show -9223372036854775808 ≤ rd l ((b.toNat : Int) - 97) + 1 by omega) (by omega), letter hx, wr (show -9223372036854775808 ≤ (i : Int) + 1 by omega) (by omega)]
    refine ev_pos (by omega) (ev_pos (by omega) (ev_pos hx.1 (ev_pos (by omega) (ev_pos (by omega) (ev_pos (by show _ + 1 ≤ _; omega) ?_)))))
    have ha : (⟨((s.data.toList.take i).map (renB l)).toArray⟩ : ByteArray) ++ (⟨#[UInt8.ofNat (97 + (rd l ((b.toNat : Int) - 97)).toNat)]⟩ : ByteArray) = ⟨((s.data.toList.take (i + 1)).map (renB l)).toArray⟩ := by
      rw [List.take_add_one, hg, List.map_append]
      exact append_list _ [renB l b]
    rw [ha]
    exact ren_loop s l hb hs h4 hl d (i + 1) (by omega)
/-- Is none of d names from the place i on one of those ahead of it? -/
def newAt (l : List Int) : Nat → Nat → Bool
  | 0, _ => true
  | d + 1, i => if ((l.take i).any fun y => decide (y = rd l (i : Int))) = true then false else newAt l d (i + 1)
theorem names_loop (s : ByteArray) (l : List Int) (R : ByteArray × Bool) (hl : l.length ≤ 1048576) (cont : Ev (fun k => spec_RenameBeads.l1 k s l (⟨#[]⟩ : ByteArray) 0) R) :
    ∀ d i : Nat, i + d = l.length → Ev (fun k => spec_RenameBeads.l0 k s l l (l.length : Int) (i : Int)) (if newAt l d i = true then R else ((⟨#[]⟩ : ByteArray), false))
  | 0, i, h => Ev.step (fun f => spec_RenameBeads.l0.eq_2 ..) (ev_neg (by omega) (by unfold newAt; rw [if_pos rfl]; exact cont))
  | d + 1, i, h => by
    have hh := has_loop (l.take i) (rd l (i : Int)) (by rw [List.length_take]; omega) (l.take i).length 0 (by omega)
    rw [List.drop_zero] at hh
    refine Ev.step (fun f => spec_RenameBeads.l0.eq_2 ..) (ev_pos (by omega) (ev_pos (by omega) (ev_pos (by omega) (ev_pos (by omega) ?_))))
    rw [show ((i : Int)).toNat = i by omega]
    refine Ev.bind hh ?_
    unfold newAt
    by_cases hc : ((l.take i).any fun y => decide (y = rd l (i : Int))) = true
    · rw [if_pos hc]
      exact ev_pos hc (by rw [if_neg (by decide)]; exact Ev.now _)
    · rw [if_neg hc, wr (show -9223372036854775808 ≤ (i : Int) + 1 by omega) (by omega)]
      exact ev_neg hc (names_loop s l R hl cont d (i + 1) (by omega))
theorem newAt_nodup (a b c d : Int) : newAt [a, b, c, d] 4 0 = decide [a, b, c, d].Nodup := by
  have r0 : rd [a, b, c, d] ((0 : Nat) : Int) = a := rfl
  have r1 : rd [a, b, c, d] ((0 + 1 : Nat) : Int) = b := rfl
  have r2 : rd [a, b, c, d] ((0 + 1 + 1 : Nat) : Int) = c := rfl
  have r3 : rd [a, b, c, d] ((0 + 1 + 1 + 1 : Nat) : Int) = d := rfl
  unfold newAt newAt newAt newAt newAt
  rw [r0, r1, r2, r3]
  simp only [List.take_zero, List.take_succ_cons, List.any_nil, List.any_cons, Bool.or_false, List.nodup_cons, List.mem_cons, List.not_mem_nil, List.nodup_nil, Bool.or_eq_true, decide_eq_true_eq]
  by_cases h1 : a = b <;> by_cases h2 : a = c <;> by_cases h3 : a = d <;> by_cases h4 : b = c <;> by_cases h5 : b = d <;> by_cases h6 : c = d <;> simp_all
def resR (s : ByteArray) (l : List Int) : ByteArray × Bool := if neckl s = true ∧ permB l = true then (⟨(s.data.toList.map (renB l)).toArray⟩, true) else ((⟨#[]⟩ : ByteArray), false)
theorem permB_rd {l : List Int} (h : permB l = true) : l.length = 4 ∧ ∀ i : Nat, i < 4 → 0 ≤ rd l (i : Int) ∧ rd l (i : Int) ≤ 3 := by
  unfold permB at h
  simp only [Bool.and_eq_true, decide_eq_true_eq] at h
  obtain ⟨h1, h2, h3⟩ := h
  refine ⟨h1, fun i hi => ?_⟩
  have hlt : i < l.length := by omega
  have hr : rd l (i : Int) = l[i] := by rw [rd_nat, List.getD_eq_getElem?_getD, List.getElem?_eq_getElem hlt]; rfl
  rw [hr]
  exact of_decide_eq_true (List.all_eq_true.1 h2 _ (List.getElem_mem hlt))
theorem spec_ren (s : ByteArray) (l : List Int) (hl : l.length ≤ 1048576) : Ev (fun k => spec_RenameBeads.f k s l) (resR s l) := by
  have e := nlGood_ev s
  have bad : Ev (fun k => spec_RenameBeads.j0 k s l true) ((⟨#[]⟩ : ByteArray), false) := Ev.step (fun f => spec_RenameBeads.j0.eq_2 ..) (ev_pos rfl (Ev.now _))
  unfold resR
  cases hn : neckl s with
  | false =>
    rw [hn] at e
    rw [if_neg (fun z => by cases z.1)]
    exact Ev.bind e (ev_neg (by decide) bad)
  | true =>
    rw [hn] at e
    refine Ev.bind e (ev_pos rfl ?_)
    by_cases h4 : l.length = 4
    · have ha := all_loop l hl l.length 0 (by omega)
      rw [List.drop_zero] at ha
      refine ev_pos (by omega) (Ev.bind ha ?_)
      cases hA : l.all (fun x => decide (0 ≤ x ∧ x ≤ 3)) with
      | false =>
        rw [if_neg (fun z => by have := z.2; unfold permB at this; rw [hA] at this; simp at this)]
        exact bad
      | true =>
        refine Ev.step (fun f => spec_RenameBeads.j0.eq_2 ..) (ev_neg (by decide) ?_)
        have hpn : permB l = newAt l 4 0 := by
          unfold permB
          rw [hA, decide_eq_true h4, Bool.true_and, Bool.true_and]
          match l, h4 with
          | [a, b, c, d], _ => exact (newAt_nodup a b c d).symm
        have hr : ∀ i : Nat, i < 4 → 0 ≤ rd l (i : Int) ∧ rd l (i : Int) ≤ 3 := fun i hi => by
          have hlt : i < l.length := by omega
          have hr : rd l (i : Int) = l[i] := by rw [rd_nat, List.getD_eq_getElem?_getD, List.getElem?_eq_getElem hlt]; rfl
          rw [hr]
          exact of_decide_eq_true (List.all_eq_true.1 hA _ (List.getElem_mem hlt))
        have := names_loop s l _ hl (ren_loop s l (neckl_beads hn) (neckl_size hn) h4 hr s.size 0 (by omega)) 4 0 (by omega)
        rw [← hpn] at this
        by_cases hp : permB l = true
        · rw [if_pos hp] at this
          rw [if_pos ⟨rfl, hp⟩]
          exact this
        · rw [if_neg hp] at this
          rw [if_neg (fun z => hp z.2)]
          exact this
    · rw [if_neg (fun z => h4 (permB_rd z.2).1)]
      exact ev_neg (by omega) bad
theorem impl_ren (s : ByteArray) (l : List Int) (hl : l.length ≤ 1048576) : impl_RenameBeads.f s l = some (resR s l) := by
  unfold impl_RenameBeads.f resR
  rw [if_pos (by omega), isNecklace_ev, Option.bind_some]
  cases hn : neckl s with
  | false => rw [if_neg (by decide), if_neg (fun z => by cases z.1)]
  | true =>
    rw [if_pos rfl]
    have hp := permB_srt l
    unfold srt at hp
    by_cases h : (l.mergeSort fun x y => decide (x ≤ y)) = [0, 1, 2, 3]
    · rw [decide_eq_true h] at hp
      have hall : (s.data.toList.all fun b => decide (97 ≤ b.toNat ∧ b.toNat < 101)) = true := List.all_eq_true.2 fun b hb => by
        have h1 : isBead b = true := List.all_eq_true.1 (neckl_beads hn) b hb
        unfold isBead at h1
        have h2 := of_decide_eq_true h1
        exact decide_eq_true (by omega)
      have hsz := neckl_size hn
      rw [if_pos h, if_pos ⟨by omega, hall⟩, if_pos ⟨rfl, hp⟩]
    · rw [decide_eq_false h] at hp
      rw [if_neg h, if_neg (fun z => by rw [hp] at z; cases z.2)]
theorem resR_len (s : ByteArray) (l : List Int) : True := trivial
end Go.Proofs.YthkdkgbcokpbaacGreatDoor.QFnNecklacesShared.Ren
/-! Beads backwards: what the program and the reference tell. -/
namespace Go.Proofs.YthkdkgbcokpbaacGreatDoor.QFnNecklacesShared.Rev
open Go.RowKit Go.Proofs.YthkdkgbcokpbaacGreatDoor.PFnNecklacesShared Go.Proofs.YthkdkgbcokpbaacGreatDoorW.PrintWords Go.Proofs.YthkdkgbcokpbaacGreatDoorW.PrintLast Go.Proofs.YthkdkgbcokpbaacGreatDoorW.PrintMore
set_option linter.unusedVariables false
set_option linter.unusedSimpArgs false
set_option maxRecDepth 100000
theorem extract_one {s : ByteArray} {i : Nat} {b : UInt8} (h : s.data.toList[i]? = some b) : s.extract i (i + 1) = ⟨#[b]⟩ := by
  have hl := (List.getElem?_eq_some_iff.1 h).1
  have h2 := (List.getElem?_eq_some_iff.1 h).2
  apply ByteArray.ext
  rw [ByteArray.data_extract]
  apply Array.ext'
  rw [Array.toList_extract, List.extract_eq_take_drop]
  rw [List.drop_eq_getElem_cons hl, h2]
  simp
theorem append_list (a b : List UInt8) : (⟨a.toArray⟩ : ByteArray) ++ ⟨b.toArray⟩ = ⟨(a ++ b).toArray⟩ := by
  apply ByteArray.ext
  rw [ByteArray.data_append]
  simp
theorem rev_loop (s : ByteArray) (hs : s.size ≤ 16) : ∀ n : Nat, n ≤ s.size → Ev (fun k => spec_ReverseBeads.l0 k s ⟨((s.data.toList.drop n).reverse).toArray⟩ ((n : Int) - 1)) (⟨s.data.toList.reverse.toArray⟩, true)
  | 0, _ => Ev.step (fun f => spec_ReverseBeads.l0.eq_2 ..) (ev_neg (by omega) (Ev.now _))
  | n + 1, h => by
    obtain ⟨b, hb⟩ := get_lt (s := s) (i := n) (by omega)
    have hl := (List.getElem?_eq_some_iff.1 hb).1
    have e : (((n + 1 : Nat) : Int) - 1) = (n : Int) := by omega
    rw [e]
    have hex : s.extract ((n : Int) : Int).toNat ((wrap64 ((n : Int) + 1)) : Int).toNat = ⟨#[b]⟩ := by
      rw [wr (by omega) (by omega)]
      have e1 : ((n : Int)).toNat = n := by omega
      have e2 : ((n : Int) + 1).toNat = n + 1 := by omega
      rw [e1, e2]
      exact extract_one hb
    refine Ev.step (fun f => spec_ReverseBeads.l0.eq_2 ..) (ev_pos (by omega) (ev_pos (by omega) (ev_pos (by rw [wr (by omega) (by omega)]; omega) (ev_pos (by rw [wr (by omega) (by omega)]; omega) ?_))))
    rw [hex]
    have hz : (⟨((s.data.toList.drop (n + 1)).reverse).toArray⟩ : ByteArray).size ≤ 16 := by
      show ((s.data.toList.drop (n + 1)).reverse).toArray.size ≤ 16
      have := size_list s
      simp
      omega
    refine ev_pos (by show _ + 1 ≤ _; omega) ?_
    have ha : (⟨((s.data.toList.drop (n + 1)).reverse).toArray⟩ : ByteArray) ++ (⟨#[b]⟩ : ByteArray) = ⟨((s.data.toList.drop n).reverse).toArray⟩ := by
      rw [List.drop_eq_getElem_cons hl, (List.getElem?_eq_some_iff.1 hb).2, List.reverse_cons]
      exact append_list _ [b]
    rw [ha, wr (by omega) (by omega)]
    exact rev_loop s hs n (by omega)
theorem spec_rev (s : ByteArray) : Ev (fun k => spec_ReverseBeads.f k s) (if neckl s = true then (⟨s.data.toList.reverse.toArray⟩, true) else ((⟨#[]⟩ : ByteArray), false)) := by
  refine Ev.bind (nlGood_ev s) ?_
  cases h : neckl s with
  | false => exact ev_neg (by decide) (Ev.now _)
  | true =>
    have hs : s.size ≤ 16 := by
      unfold neckl at h
      exact of_decide_eq_true (Bool.and_eq_true_iff.1 h).1
    refine ev_pos rfl ?_
    have := rev_loop s hs s.size (Nat.le_refl _)
    rw [List.drop_eq_nil_of_le (by rw [size_list]; omega)] at this
    rw [wr (by omega) (by omega)]
    exact this
theorem impl_rev (s : ByteArray) : impl_ReverseBeads.f s = some (if neckl s = true then (⟨s.data.toList.reverse.toArray⟩, true) else ((⟨#[]⟩ : ByteArray), false)) := by
  unfold impl_ReverseBeads.f
  rw [isNecklace_ev, Option.bind_some]
  cases h : neckl s with
  | false => rfl
  | true =>
    have hs : s.size ≤ 16 := by
      unfold neckl at h
      exact of_decide_eq_true (Bool.and_eq_true_iff.1 h).1
    rw [if_pos rfl, if_pos rfl, if_pos (by omega)]
end Go.Proofs.YthkdkgbcokpbaacGreatDoor.QFnNecklacesShared.Rev
/-! Necklaces: cuts as rising lists, beads backwards, with other kinds, and sorted. -/
namespace Go.Proofs.YthkdkgbcokpbaacGreatDoor.QFnNecklacesShared
open Go.RowKit Go.Proofs.YthkdkgbcokpbaacGreatDoor.PFnNecklacesShared Go.Proofs.YthkdkgbcokpbaacGreatDoorW.PrintWords Go.Proofs.YthkdkgbcokpbaacGreatDoorW.PrintLast Go.Proofs.YthkdkgbcokpbaacGreatDoorW.PrintMore
set_option linter.unusedVariables false
set_option linter.unusedSimpArgs false
set_option maxRecDepth 100000
theorem nodup_len {α : Type} [BEq α] [LawfulBEq α] : ∀ {a b : List α}, a.Nodup → (∀ x ∈ a, x ∈ b) → a.length ≤ b.length
  | [], b, _, _ => Nat.zero_le _
  | x :: a, b, hn, hs => by
    have hx := hs x List.mem_cons_self
    have hn2 := List.nodup_cons.1 hn
    have ih := nodup_len (b := b.erase x) hn2.2 (fun y hy => (List.mem_erase_of_ne (fun e => hn2.1 (by rw [← e]; exact hy))).2 (hs y (List.mem_cons_of_mem _ hy)))
    rw [List.length_erase_of_mem hx] at ih
    have := List.length_pos_of_mem hx
    rw [List.length_cons]
    omega
/-! ### lists of cuts -/
theorem chFrom_iff (g : Nat → List (List Int)) (r : List Int) : ∀ d x, r ∈ chFrom g d x ↔ ∃ u : Nat, x ≤ u ∧ u < x + d ∧ ∃ t ∈ g (u + 1), r = (u : Int) :: t
  | 0, x => ⟨fun h => (by cases h), fun ⟨u, h1, h2, _⟩ => by omega⟩
  | d + 1, x => by
    unfold chFrom
    rw [List.mem_append, List.mem_map, chFrom_iff g r d (x + 1)]
    constructor
    · rintro (⟨t, ht, rfl⟩ | ⟨u, h1, h2, t, ht, e⟩)
      · exact ⟨x, Nat.le_refl _, by omega, t, ht, rfl⟩
      · exact ⟨u, by omega, by omega, t, ht, e⟩
    · rintro ⟨u, h1, h2, t, ht, e⟩
      rcases Nat.eq_or_lt_of_le h1 with e1 | e1
      · subst e1; exact .inl ⟨t, ht, e.symm⟩
      · exact .inr ⟨u, e1, by omega, t, ht, e⟩
def Up (n a : Nat) (r : List Int) : Prop := (∀ x ∈ r, (a : Int) ≤ x ∧ x < (n : Int)) ∧ r.Pairwise (· < ·)
theorem ch_iff (n : Nat) : ∀ m a r, r ∈ ch n m a ↔ r.length = m ∧ Up n a r
  | 0, a, r => by
    constructor
    · intro h
      have e := List.mem_singleton.1 h
      subst e
      exact ⟨rfl, fun x hx => (by cases hx), List.Pairwise.nil⟩
    · rintro ⟨h, _⟩
      exact List.mem_singleton.2 (List.eq_nil_of_length_eq_zero h)
  | m + 1, a, r => by
    show r ∈ chFrom (ch n m) (n - a) a ↔ _
    rw [chFrom_iff]
    constructor
    · rintro ⟨u, h1, h2, t, ht, rfl⟩
      obtain ⟨hl, hb, hp⟩ := (ch_iff n m (u + 1) t).1 ht
      refine ⟨by rw [List.length_cons, hl], fun x hx => ?_, List.pairwise_cons.2 ⟨fun x hx => ?_, hp⟩⟩
      · rcases List.mem_cons.1 hx with rfl | hx
        · omega
        · have := hb x hx; omega
      · have := hb x hx; omega
    · rintro ⟨hl, hb, hp⟩
      match r, hl, hb, hp with
      | x :: t, hl, hb, hp =>
        have hx := hb x List.mem_cons_self
        obtain ⟨u, rfl⟩ := Int.eq_ofNat_of_zero_le (show 0 ≤ x by omega)
        have hp2 := List.pairwise_cons.1 hp
        refine ⟨u, by omega, by omega, t, (ch_iff n m (u + 1) t).2 ⟨by rw [List.length_cons] at hl; omega, fun y hy => ?_, hp2.2⟩, rfl⟩
        have := hp2.1 y hy
        have := hb y (List.mem_cons_of_mem _ hy)
        omega
theorem chFrom_nodup (g : Nat → List (List Int)) (hg : ∀ x, (g x).Nodup) : ∀ d x, (chFrom g d x).Nodup
  | 0, x => List.Pairwise.nil
  | d + 1, x => by
    unfold chFrom
    refine List.pairwise_append.2 ⟨List.pairwise_map.2 ((hg (x + 1)).imp (fun hne e => hne (List.cons.inj e).2)), chFrom_nodup g hg d (x + 1), fun a ha b hb e => ?_⟩
    obtain ⟨t, _, rfl⟩ := List.mem_map.1 ha
    obtain ⟨u, h1, _, t', _, e2⟩ := (chFrom_iff g b d (x + 1)).1 hb
    rw [e2] at e
    have := (List.cons.inj e).1
    omega
theorem ch_nodup (n : Nat) : ∀ m a, (ch n m a).Nodup
  | 0, a => List.pairwise_singleton _ _
  | m + 1, a => chFrom_nodup (ch n m) (fun x => ch_nodup n m x) (n - a) a
theorem fl_nodup (s : ByteArray) (m : Nat) : (fl s m).Nodup := (ch_nodup s.size m 1).filter _
theorem fl_iff {s : ByteArray} {m : Nat} {r : List Int} : r ∈ fl s m ↔ (r.length = m ∧ Up s.size 1 r) ∧ fairOf s r = true := by
  unfold fl
  rw [List.mem_filter, ch_iff]
/-- Cuts backwards. -/
def rv (n : Nat) (r : List Int) : List Int := (r.map fun x => (n : Int) - x).reverse
theorem rv_len (n : Nat) (r : List Int) : (rv n r).length = r.length := by unfold rv; rw [List.length_reverse, List.length_map]
theorem rv_mem {n : Nat} {r : List Int} {x : Int} : x ∈ rv n r ↔ (n : Int) - x ∈ r := by
  unfold rv
  rw [List.mem_reverse, List.mem_map]
  constructor
  · rintro ⟨y, hy, rfl⟩
    rw [show (n : Int) - ((n : Int) - y) = y by omega]
    exact hy
  · intro h
    exact ⟨_, h, by omega⟩
theorem rv_up {n : Nat} {r : List Int} (h : Up n 1 r) : Up n 1 (rv n r) := by
  refine ⟨fun x hx => ?_, ?_⟩
  · have := h.1 _ (rv_mem.1 hx)
    omega
  · unfold rv
    rw [List.pairwise_reverse, List.pairwise_map]
    exact h.2.imp (fun h => by omega)
theorem rv_rv (n : Nat) (r : List Int) : rv n (rv n r) = r := by
  unfold rv
  rw [List.map_reverse, List.reverse_reverse, List.map_map]
  conv => rhs; rw [← List.map_id r]
  exact List.map_congr_left (fun x _ => by show (n : Int) - ((n : Int) - x) = x; omega)
/-! ### the signs of cuts -/
theorem rd_get2 {l : List Int} {i : Nat} (h : i < l.length) : rd l (i : Int) = l[i] := by rw [rd_nat, List.getD_eq_getElem?_getD, List.getElem?_eq_getElem h]; rfl
theorem signs_get (l : List Int) : ∀ (d i : Nat) (sg : Int), ∀ j : Nat, j < d → (signsFn l d i sg).getD j 0 = (if among l ((i + j : Nat) : Int) l.length 0 = true then -(if j = 0 then sg else (signsFn l d i sg).getD (j - 1) 0) else (if j = 0 then sg else (signsFn l d i sg).getD (j - 1) 0))
  | 0, i, sg, j, h => by omega
  | d + 1, i, sg, j, h => by
    unfold signsFn
    by_cases hc : among l (i : Int) l.length 0 = true
    · rw [if_pos hc]
      cases j with
      | zero => rw [show ((i + 0 : Nat) : Int) = (i : Int) by omega, if_pos hc, if_pos rfl]; rfl
      | succ j =>
        rw [List.getD_cons_succ, signs_get l d (i + 1) (-sg) j (by omega), show i + 1 + j = i + (j + 1) by omega, if_neg (show ¬ j + 1 = 0 by omega), Nat.add_sub_cancel]
        cases j with
        | zero => rfl
        | succ j => rfl
    · rw [if_neg hc]
      cases j with
      | zero => rw [show ((i + 0 : Nat) : Int) = (i : Int) by omega, if_neg hc, if_pos rfl]; rfl
      | succ j =>
        rw [List.getD_cons_succ, signs_get l d (i + 1) sg j (by omega), show i + 1 + j = i + (j + 1) by omega, if_neg (show ¬ j + 1 = 0 by omega), Nat.add_sub_cancel]
        cases j with
        | zero => rfl
        | succ j => rfl
theorem signs_unit (l : List Int) (n : Nat) {j : Nat} (h : j < n) : (signsFn l n 0 1).getD j 0 = 1 ∨ (signsFn l n 0 1).getD j 0 = -1 := by
  have hl : j < (signsFn l n 0 1).length := by rw [signsFn_len]; exact h
  have := signsFn_unit l n 0 1 (.inl rfl) _ (List.getElem_mem hl)
  rw [List.getD_eq_getElem?_getD, List.getElem?_eq_getElem hl]
  exact this
theorem among_in (l : List Int) (x : Int) : among l x l.length 0 = true ↔ x ∈ l := by
  rw [among_mem l x l.length 0 (by omega), List.drop_zero]
/-- Signs that change at the cuts and nowhere else. -/
structure SY (n : Nat) (r : List Int) (y : Nat → Int) : Prop where
  unit : ∀ u, u < n → y u = 1 ∨ y u = -1
  zero : y 0 = 1
  step : ∀ j, 1 ≤ j → j < n → ((j : Int) ∈ r ↔ y j ≠ y (j - 1))
theorem sg_eq {n : Nat} {r : List Int} {y : Nat → Int} (h : SY n r y) (h0 : (0 : Int) ∉ r) : ∀ j, j < n → rd (signsFn r n 0 1) (j : Int) = y j
  | 0, hj => by
    rw [rd_nat, signs_get r n 0 1 0 hj, show ((0 + 0 : Nat) : Int) = 0 from rfl, if_neg (fun z => h0 ((among_in r _).1 z)), if_pos rfl, h.zero]
  | j + 1, hj => by
    have ih := sg_eq h h0 j (by omega)
    rw [rd_nat] at ih ⊢
    rw [signs_get r n 0 1 (j + 1) hj, if_neg (show ¬ j + 1 = 0 by omega), Nat.add_sub_cancel, ih, Nat.zero_add]
    have hs := h.step (j + 1) (by omega) hj
    rw [Nat.add_sub_cancel] at hs
    have u1 := h.unit j (by omega)
    have u2 := h.unit (j + 1) hj
    by_cases hc : ((j + 1 : Nat) : Int) ∈ r
    · rw [if_pos ((among_in r _).2 hc)]
      have := hs.1 hc
      omega
    · rw [if_neg (fun z => hc ((among_in r _).1 z))]
      exact Classical.byContradiction (fun z => hc (hs.2 (fun e => z e.symm)))
theorem sy_of {n : Nat} {r : List Int} (hn : 0 < n) (h0 : (0 : Int) ∉ r) : SY n r (fun j => (signsFn r n 0 1).getD j 0) := by
  refine ⟨fun u hu => signs_unit r n hu, ?_, fun j h1 h2 => ?_⟩
  · show (signsFn r n 0 1).getD 0 0 = 1
    rw [signs_get r n 0 1 0 hn, show ((0 + 0 : Nat) : Int) = 0 from rfl, if_neg (fun z => h0 ((among_in r _).1 z)), if_pos rfl]
  · show _ ↔ (signsFn r n 0 1).getD j 0 ≠ (signsFn r n 0 1).getD (j - 1) 0
    have u1 := signs_unit r n (show j - 1 < n by omega)
    rw [signs_get r n 0 1 j h2, if_neg (show ¬ j = 0 by omega), Nat.zero_add]
    by_cases hc : (j : Int) ∈ r
    · rw [if_pos ((among_in r _).2 hc)]
      exact ⟨fun _ => by omega, fun _ => hc⟩
    · rw [if_neg (fun z => hc ((among_in r _).1 z))]
      exact ⟨fun z => absurd z hc, fun z => absurd rfl z⟩
/-- What rises, as a sorted list. -/
theorem rise_sorted (m : Int) (l : List Int) : ∀ d i : Nat, i + d = l.length → (rise m l d i = true ↔ (∀ j : Nat, i ≤ j → j < l.length → 1 ≤ l.getD j 0 ∧ l.getD j 0 ≤ m ∧ (0 < j → l.getD (j - 1) 0 < l.getD j 0)))
  | 0, i, h => by
    unfold rise
    exact ⟨fun _ j h1 h2 => by omega, fun _ => rfl⟩
  | d + 1, i, h => by
    have ih := rise_sorted m l d (i + 1) (by omega)
    unfold rise
    have e1 : ∀ hi : 0 < i, rd l ((i : Int) - 1) = l.getD (i - 1) 0 := fun hi => by
      rw [show (i : Int) - 1 = ((i - 1 : Nat) : Int) by omega, rd_nat]
    rw [rd_nat]
    by_cases hc : 1 ≤ l.getD i 0 ∧ l.getD i 0 ≤ m
    · rw [if_pos hc]
      by_cases h2 : 0 < i ∧ rd l ((i : Int) - 1) ≥ l.getD i 0
      · rw [if_pos h2]
        refine ⟨fun e => (by cases e), fun e => ?_⟩
        have := (e i (Nat.le_refl _) (by omega)).2.2 h2.1
        rw [e1 h2.1] at h2
        omega
      · rw [if_neg h2, ih]
        refine ⟨fun e j h3 h4 => ?_, fun e j h3 h4 => e j (by omega) h4⟩
        rcases Nat.eq_or_lt_of_le h3 with h5 | h5
        · subst h5
          refine ⟨hc.1, hc.2, fun h6 => ?_⟩
          have := fun z => h2 ⟨h6, z⟩
          rw [e1 h6] at this
          omega
        · exact e j h5 h4
    · rw [if_neg hc]
      exact ⟨fun e => (by cases e), fun e => absurd ⟨(e i (Nat.le_refl _) (by omega)).1, (e i (Nat.le_refl _) (by omega)).2.1⟩ hc⟩
theorem rise_of {m : Int} {l : List Int} (h : ∀ x ∈ l, 1 ≤ x ∧ x ≤ m) (hp : l.Pairwise (· < ·)) : rise m l l.length 0 = true := by
  refine (rise_sorted m l l.length 0 (by omega)).2 fun j _ hj => ?_
  have g : ∀ {j : Nat} (hj : j < l.length), l.getD j 0 = l[j] := fun hj => by rw [List.getD_eq_getElem?_getD, List.getElem?_eq_getElem hj]; rfl
  have := h _ (List.getElem_mem hj)
  rw [g hj]
  refine ⟨this.1, this.2, fun h0 => ?_⟩
  rw [g (show j - 1 < l.length by omega)]
  exact List.pairwise_iff_getElem.1 hp (j - 1) j (by omega) hj (by omega)
def isK (v : Nat) : Prop := v = 97 ∨ v = 98 ∨ v = 99 ∨ v = 100
theorem fair_iff {s : ByteArray} (hs : s.size ≤ 16) {r : List Int} {y : Nat → Int} (h : SY s.size r y) (h0 : (0 : Int) ∉ r) :
    fairOf s r = true ↔ ∀ v, isK v → 2 * (Neck.P (kd s.data.toList) y s.size v : Int) = cn v s.data.toList := by
  have hlen := size_list s
  have hm : ∀ v, cn v (mine s.data.toList (signsFn r s.size 0 1) s.size) = (Neck.P (kd s.data.toList) y s.size v : Int) := fun v => by
    have := mine_cn s.data.toList y (signsFn r s.size 0 1) v (fun j hj => sg_eq h h0 j (by omega)) s.data.toList.length (Nat.le_refl _)
    rw [hlen] at this
    exact this
  have r1 := rd_cnt (mine s.data.toList (signsFn r s.size 0 1) s.size)
  have r2 := rd_cnt s.data.toList
  unfold fairOf shareL
  constructor
  · intro hf v hv
    have hf := fun i hi => twice_at hf i hi
    rw [← hm]
    rcases hv with rfl | rfl | rfl | rfl
    · have := hf 0 (by omega); rw [r1.1, r2.1] at this; exact this
    · have := hf 1 (by omega); rw [r1.2.1, r2.2.1] at this; exact this
    · have := hf 2 (by omega); rw [r1.2.2.1, r2.2.2.1] at this; exact this
    · have := hf 3 (by omega); rw [r1.2.2.2, r2.2.2.2] at this; exact this
  · intro hv
    refine twice_of (fun i hi => ?_)
    match i with
    | 0 => rw [r1.1, r2.1, hm]; exact hv 97 (.inl rfl)
    | 1 => rw [r1.2.1, r2.2.1, hm]; exact hv 98 (.inr (.inl rfl))
    | 2 => rw [r1.2.2.1, r2.2.2.1, hm]; exact hv 99 (.inr (.inr (.inl rfl)))
    | 3 => rw [r1.2.2.2, r2.2.2.2, hm]; exact hv 100 (.inr (.inr (.inr rfl)))
    | n + 4 => omega
theorem not_zero {n : Nat} {r : List Int} (h : Up n 1 r) : (0 : Int) ∉ r := fun z => by have := h.1 0 z; omega
/-! ### backwards -/
theorem ct_front (f : Nat → Bool) : ∀ n, Neck.ct f (n + 1) = (if f 0 = true then 1 else 0) + Neck.ct (fun u => f (u + 1)) n
  | 0 => Nat.add_comm (Neck.ct f 0) (if f 0 = true then 1 else 0)
  | n + 1 => by
    show Neck.ct f (n + 1) + (if f (n + 1) = true then 1 else 0) = (if f 0 = true then 1 else 0) + (Neck.ct (fun u => f (u + 1)) n + (if f (n + 1) = true then 1 else 0))
    rw [ct_front f n]
    omega
theorem ct_rev (f : Nat → Bool) : ∀ n, Neck.ct (fun u => f (n - 1 - u)) n = Neck.ct f n
  | 0 => rfl
  | n + 1 => by
    rw [ct_front]
    have ih := ct_rev f n
    have e : Neck.ct (fun u => f (n + 1 - 1 - (u + 1))) n = Neck.ct (fun u => f (n - 1 - u)) n := Neck.ct_congr n (fun u hu => by
      show f (n + 1 - 1 - (u + 1)) = f (n - 1 - u)
      rw [show n + 1 - 1 - (u + 1) = n - 1 - u by omega])
    rw [e, ih]
    show (if f (n + 1 - 1 - 0) = true then 1 else 0) + Neck.ct f n = Neck.ct f n + (if f n = true then 1 else 0)
    rw [show n + 1 - 1 - 0 = n by omega]
    omega
theorem kd_rev (bs : List UInt8) {u : Nat} (h : u < bs.length) : kd bs.reverse u = kd bs (bs.length - 1 - u) := by
  rw [kd_at (by rw [List.length_reverse]; exact h), kd_at (by omega), List.getElem_reverse]
theorem cn_rev (v : Nat) (bs : List UInt8) : cn v bs.reverse = cn v bs := by unfold cn; rw [List.countP_reverse]
theorem PQ {k : Nat → Nat} {y : Nat → Int} {n : Nat} (h : ∀ u, u < n → y u = 1 ∨ y u = -1) (v : Nat) : Neck.P k y n v + Neck.P k (fun u => -y u) n v = Neck.T k n v :=
  Neck.ct_add n (fun u hu => by
    have hu := h u hu
    show (if (k u == v && y u == 1) = true then 1 else 0) + (if (k u == v && -y u == 1) = true then 1 else 0) = (if (k u == v) = true then 1 else 0 : Nat)
    rcases hu with e | e <;> rw [e] <;> cases k u == v <;> rfl)
theorem fair_rev {s s' : ByteArray} (hs : s.size ≤ 16) (e : s'.data.toList = s.data.toList.reverse) {r : List Int} (hr : Up s.size 1 r) (hf : fairOf s r = true) : fairOf s' (rv s.size r) = true := by
  have hl := size_list s
  have hl' := size_list s'
  rw [e, List.length_reverse, hl] at hl'
  have h0 := not_zero hr
  have h0' := not_zero (rv_up hr)
  rcases Nat.eq_zero_or_pos s.size with hn | hn
  · have er : r = [] := by
      match r, hr with
      | [], _ => rfl
      | x :: t, hr => have := hr.1 x List.mem_cons_self; omega
    have eb : s.data.toList = [] := List.eq_nil_of_length_eq_zero (by omega)
    rw [eb] at e
    subst er
    unfold fairOf shareL
    rw [e, ← hl', hn]
    decide
  have h := sy_of hn h0
  generalize (fun j => (signsFn r s.size 0 1).getD j 0) = y at h
  have hy := (fair_iff hs h h0).1 hf
  have ue := h.unit (s.size - 1) (by omega)
  have h' : SY s'.size (rv s.size r) (fun u => y (s.size - 1 - u) * y (s.size - 1)) := by
    rw [← hl']
    refine ⟨fun u hu => ?_, ?_, fun j h1 h2 => ?_⟩
    · have := h.unit (s.size - 1 - u) (by omega)
      show y (s.size - 1 - u) * y (s.size - 1) = 1 ∨ y (s.size - 1 - u) * y (s.size - 1) = -1
      rcases this with e1 | e1 <;> rcases ue with e2 | e2 <;> rw [e1, e2] <;> decide
    · show y (s.size - 1 - 0) * y (s.size - 1) = 1
      rw [Nat.sub_zero]
      rcases ue with e2 | e2 <;> rw [e2] <;> decide
    · have hst := h.step (s.size - j) (by omega) (by omega)
      rw [rv_mem, show (s.size : Int) - (j : Int) = ((s.size - j : Nat) : Int) by omega, hst]
      show _ ↔ y (s.size - 1 - j) * y (s.size - 1) ≠ y (s.size - 1 - (j - 1)) * y (s.size - 1)
      rw [show s.size - 1 - (j - 1) = s.size - j by omega, show s.size - j - 1 = s.size - 1 - j by omega]
      have u1 := h.unit (s.size - j) (by omega)
      have u2 := h.unit (s.size - 1 - j) (by omega)
      rcases u1 with e1 | e1 <;> rcases u2 with e2 | e2 <;> rcases ue with e3 | e3 <;> rw [e1, e2, e3] <;> decide
  refine (fair_iff (by omega) h' h0').2 (fun v hv => ?_)
  have hyv := hy v hv
  rw [e, cn_rev, ← hl']
  have hk : ∀ z : Nat → Int, Neck.P (kd s.data.toList.reverse) (fun u => z (s.size - 1 - u)) s.size v = Neck.P (kd s.data.toList) z s.size v := fun z => by
    have := ct_rev (fun u => kd s.data.toList u == v && z u == 1) s.size
    unfold Neck.P
    rw [← this]
    refine Neck.ct_congr s.size (fun u hu => ?_)
    show (kd s.data.toList.reverse u == v && z (s.size - 1 - u) == 1) = (kd s.data.toList (s.size - 1 - u) == v && z (s.size - 1 - u) == 1)
    rw [kd_rev s.data.toList (by omega), hl]
  rcases ue with e3 | e3
  · have e4 : (fun u => y (s.size - 1 - u) * y (s.size - 1)) = fun u => y (s.size - 1 - u) := by funext u; rw [e3, Int.mul_one]
    rw [e4, hk y]
    exact hyv
  · have e4 : (fun u => y (s.size - 1 - u) * y (s.size - 1)) = fun u => (fun w => -y w) (s.size - 1 - u) := by funext u; rw [e3]; show y (s.size - 1 - u) * -1 = -y (s.size - 1 - u); omega
    rw [e4, hk (fun w => -y w)]
    have hT := T_cn s.data.toList v s.data.toList.length (Nat.le_refl _)
    rw [List.take_length, hl] at hT
    have := PQ (k := kd s.data.toList) h.unit v
    omega
theorem fl_rev_le {s s' : ByteArray} (hs : s.size ≤ 16) (e : s'.data.toList = s.data.toList.reverse) (m : Nat) : (fl s m).length ≤ (fl s' m).length := by
  have hl := size_list s
  have hl' := size_list s'
  rw [e, List.length_reverse, hl] at hl'
  have hn : ((fl s m).map (rv s.size)).Nodup := List.pairwise_map.2 ((fl_nodup s m).imp (fun hne z => hne (by
    have := congrArg (rv s.size) z
    rw [rv_rv, rv_rv] at this
    exact this)))
  have := nodup_len hn (b := fl s' m) (fun x hx => by
    obtain ⟨r, hr, rfl⟩ := List.mem_map.1 hx
    obtain ⟨⟨h1, h2⟩, h3⟩ := fl_iff.1 hr
    exact fl_iff.2 ⟨⟨by rw [rv_len, h1], by rw [← hl']; exact rv_up h2⟩, fair_rev hs e h2 h3⟩)
  rw [List.length_map] at this
  exact this
theorem fl_rev {s s' : ByteArray} (hs : s.size ≤ 16) (e : s'.data.toList = s.data.toList.reverse) (m : Nat) : (fl s' m).length = (fl s m).length := by
  have hl := size_list s
  have hl' := size_list s'
  rw [e, List.length_reverse, hl] at hl'
  exact Nat.le_antisymm (fl_rev_le (by omega) (by rw [e, List.reverse_reverse]) m) (fl_rev_le hs e m)
/-! ### other kinds -/
def ren4 (b : UInt8) : UInt8 := renB [2, 3, 1, 0] b
theorem ren4_cases {b : UInt8} (hb : isBead b = true) : (b.toNat = 97 ∧ (ren4 b).toNat = 99) ∨ (b.toNat = 98 ∧ (ren4 b).toNat = 100) ∨ (b.toNat = 99 ∧ (ren4 b).toNat = 98) ∨ (b.toNat = 100 ∧ (ren4 b).toNat = 97) := by
  have h : ∀ n : Nat, n = 97 ∨ n = 98 ∨ n = 99 ∨ n = 100 → (UInt8.ofNat n = b) → _ := fun n hn e => e ▸ (show ((UInt8.ofNat n).toNat = 97 ∧ (ren4 (UInt8.ofNat n)).toNat = 99) ∨ ((UInt8.ofNat n).toNat = 98 ∧ (ren4 (UInt8.ofNat n)).toNat = 100) ∨ ((UInt8.ofNat n).toNat = 99 ∧ (ren4 (UInt8.ofNat n)).toNat = 98) ∨ ((UInt8.ofNat n).toNat = 100 ∧ (ren4 (UInt8.ofNat n)).toNat = 97) by
    rcases hn with rfl | rfl | rfl | rfl
    · exact .inl ⟨by decide, by decide +kernel⟩
    · exact .inr (.inl ⟨by decide, by decide +kernel⟩)
    · exact .inr (.inr (.inl ⟨by decide, by decide +kernel⟩))
    · exact .inr (.inr (.inr ⟨by decide, by decide +kernel⟩)))
  exact h b.toNat (kind_cases hb) (UInt8.toNat_inj.1 (by rw [UInt8.toNat_ofNat']; have := kind_cases hb; omega))
theorem ren4_bead {b : UInt8} (hb : isBead b = true) : isBead (ren4 b) = true := by
  have := ren4_cases hb
  unfold isBead
  exact decide_eq_true (by omega)
theorem cn_cons (v : Nat) (b : UInt8) (l : List UInt8) : cn v (b :: l) = cn v l + (if b.toNat = v then 1 else 0) := by
  unfold cn
  rw [List.countP_cons]
  by_cases c : b.toNat = v
  · rw [if_pos c, if_pos (decide_eq_true c)]; omega
  · rw [if_neg c, if_neg (by rw [decide_eq_false c]; decide)]; omega
theorem cn_ren : ∀ (l : List UInt8), (∀ b ∈ l, isBead b = true) → cn 97 (l.map ren4) = cn 100 l ∧ cn 98 (l.map ren4) = cn 99 l ∧ cn 99 (l.map ren4) = cn 97 l ∧ cn 100 (l.map ren4) = cn 98 l
  | [], _ => ⟨rfl, rfl, rfl, rfl⟩
  | b :: l, h => by
    obtain ⟨h1, h2, h3, h4⟩ := cn_ren l (fun x hx => h x (List.mem_cons_of_mem _ hx))
    rw [List.map_cons, cn_cons, cn_cons, cn_cons, cn_cons, cn_cons, cn_cons, cn_cons, cn_cons, h1, h2, h3, h4]
    rcases ren4_cases (h b List.mem_cons_self) with ⟨e1, e2⟩ | ⟨e1, e2⟩ | ⟨e1, e2⟩ | ⟨e1, e2⟩ <;> rw [e1, e2] <;> simp
theorem mine_map (f : UInt8 → UInt8) (bs : List UInt8) (sg : List Int) : ∀ i, mine (bs.map f) sg i = (mine bs sg i).map f
  | 0 => rfl
  | i + 1 => by
    have ih := mine_map f bs sg i
    unfold mine
    by_cases hc : rd sg (i : Int) = 1
    · rw [if_pos hc, if_pos hc, ih, List.map_append, List.getElem?_map]
      cases bs[i]? <;> rfl
    · rw [if_neg hc, if_neg hc, ih]
theorem mine_mem (bs : List UInt8) (sg : List Int) : ∀ i, ∀ b ∈ mine bs sg i, b ∈ bs
  | 0, b, h => by cases h
  | i + 1, b, h => by
    unfold mine at h
    split at h
    · rcases List.mem_append.1 h with h | h
      · exact mine_mem bs sg i b h
      · cases hc : bs[i]? with
        | none => rw [hc] at h; cases h
        | some x =>
          rw [hc] at h
          have e := List.mem_singleton.1 h
          subst e
          exact List.mem_of_getElem? hc
    · exact mine_mem bs sg i b h
theorem twice_iff (x y : List UInt8) : twice (cntL x) (cntL y) 4 0 = true ↔ 2 * cn 97 x = cn 97 y ∧ 2 * cn 98 x = cn 98 y ∧ 2 * cn 99 x = cn 99 y ∧ 2 * cn 100 x = cn 100 y := by
  have r1 := rd_cnt x
  have r2 := rd_cnt y
  constructor
  · intro h
    have h0 := twice_at h 0 (by omega)
    have h1 := twice_at h 1 (by omega)
    have h2 := twice_at h 2 (by omega)
    have h3 := twice_at h 3 (by omega)
    rw [r1.1, r2.1] at h0
    rw [r1.2.1, r2.2.1] at h1
    rw [r1.2.2.1, r2.2.2.1] at h2
    rw [r1.2.2.2, r2.2.2.2] at h3
    exact ⟨h0, h1, h2, h3⟩
  · rintro ⟨h0, h1, h2, h3⟩
    refine twice_of (fun i hi => ?_)
    match i with
    | 0 => rw [r1.1, r2.1]; exact h0
    | 1 => rw [r1.2.1, r2.2.1]; exact h1
    | 2 => rw [r1.2.2.1, r2.2.2.1]; exact h2
    | 3 => rw [r1.2.2.2, r2.2.2.2]; exact h3
    | n + 4 => omega
theorem fair_ren {s s' : ByteArray} (hb : beads s = true) (e : s'.data.toList = s.data.toList.map ren4) (r : List Int) : fairOf s' r = fairOf s r := by
  have hl := size_list s
  have hl' := size_list s'
  rw [e, List.length_map, hl] at hl'
  have hall : ∀ b ∈ s.data.toList, isBead b = true := List.all_eq_true.1 hb
  rw [Bool.eq_iff_iff]
  unfold fairOf shareL
  rw [twice_iff, twice_iff, ← hl', e, mine_map]
  obtain ⟨a1, a2, a3, a4⟩ := cn_ren s.data.toList hall
  obtain ⟨c1, c2, c3, c4⟩ := cn_ren (mine s.data.toList (signsFn r s.size 0 1) s.size) (fun b h => hall b (mine_mem _ _ _ b h))
  rw [a1, a2, a3, a4, c1, c2, c3, c4]
  constructor
  · rintro ⟨x1, x2, x3, x4⟩; exact ⟨x3, x4, x2, x1⟩
  · rintro ⟨x1, x2, x3, x4⟩; exact ⟨x4, x3, x1, x2⟩
theorem fl_ren {s s' : ByteArray} (hb : beads s = true) (e : s'.data.toList = s.data.toList.map ren4) : fl s' = fl s := by
  have hl := size_list s
  have hl' := size_list s'
  rw [e, List.length_map, hl] at hl'
  funext m
  unfold fl
  rw [← hl']
  exact List.filter_congr (fun r _ => fair_ren hb e r)
/-! ### sorted beads -/
theorem P_all {k : Nat → Nat} {y : Nat → Int} {v : Nat} : ∀ n, (∀ u, u < n → k u = v → y u = 1) → Neck.P k y n v = Neck.T k n v := fun n h =>
  Neck.ct_congr n (fun u hu => by
    show (k u == v && y u == 1) = (k u == v)
    cases hc : k u == v with
    | false => rfl
    | true => rw [h u hu (beq_iff_eq.1 hc)]; rfl)
theorem P_none {k : Nat → Nat} {y : Nat → Int} {v : Nat} (n : Nat) (h : ∀ u, u < n → k u = v → y u ≠ 1) : Neck.P k y n v = 0 := by
  have : Neck.P k y n v = Neck.ct (fun _ => false) n := Neck.ct_congr n (fun u hu => by
    show (k u == v && y u == 1) = false
    cases hc : k u == v with
    | false => rfl
    | true => rw [Bool.true_and]; exact beq_eq_false_iff_ne.2 (h u hu (beq_iff_eq.1 hc)))
  rw [this, Neck.ct_false]
/-- Between two places with other signs the sign changes. -/
theorem change (y : Nat → Int) : ∀ d i, y i ≠ y (i + d) → ∃ j, i < j ∧ j ≤ i + d ∧ y j ≠ y (j - 1)
  | 0, i, h => absurd rfl h
  | d + 1, i, h => by
    by_cases hc : y i = y (i + d)
    · exact ⟨i + (d + 1), by omega, Nat.le_refl _, fun z => h (by rw [show i + (d + 1) - 1 = i + d by omega] at z; rw [hc, z])⟩
    · obtain ⟨j, h1, h2, h3⟩ := change y d i hc
      exact ⟨j, h1, by omega, h3⟩
theorem sorted_cuts {s : ByteArray} (hs : s.size ≤ 16) (hsort : ∀ i j, i ≤ j → j < s.size → kd s.data.toList i ≤ kd s.data.toList j) {r : List Int} (hr : Up s.size 1 r) (hf : fairOf s r = true) : (kin s.data.toList).length ≤ r.length := by
  have hl := size_list s
  have h0 := not_zero hr
  rcases Nat.eq_zero_or_pos s.size with hn | hn
  · have eb : s.data.toList = [] := List.eq_nil_of_length_eq_zero (by omega)
    rw [eb]
    exact Nat.zero_le _
  have h := sy_of hn h0
  generalize (fun j => (signsFn r s.size 0 1).getD j 0) = y at h
  have hy := (fair_iff hs h h0).1 hf
  have hk : (kin s.data.toList).Nodup := by
    unfold kin
    exact List.Pairwise.filter _ (by decide)
  have hsub : ∀ v ∈ kin s.data.toList, v ∈ r.map fun c => kd s.data.toList c.toNat := fun v hv => by
    obtain ⟨k1, k2⟩ := kin_mem.1 hv
    have hP := hy v k1
    have hT := T_cn s.data.toList v s.data.toList.length (Nat.le_refl _)
    rw [List.take_length, hl] at hT
    obtain ⟨a, ha, ka, ya⟩ : ∃ a, a < s.size ∧ kd s.data.toList a = v ∧ y a = 1 := Classical.byContradiction fun z => by
      have := P_none (k := kd s.data.toList) (y := y) (v := v) s.size (fun u hu ku yu => z ⟨u, hu, ku, yu⟩)
      omega
    obtain ⟨b, hb, kb, yb⟩ : ∃ b, b < s.size ∧ kd s.data.toList b = v ∧ y b ≠ 1 := Classical.byContradiction fun z => by
      have := P_all (k := kd s.data.toList) (y := y) (v := v) s.size (fun u hu ku => Classical.byContradiction fun yu => z ⟨u, hu, ku, yu⟩)
      omega
    have two : ∀ a b, a < b → b < s.size → kd s.data.toList a = v → kd s.data.toList b = v → y a ≠ y b → v ∈ r.map fun c => kd s.data.toList c.toNat := fun a b hab hb ka kb hne => by
      obtain ⟨j, j1, j2, j3⟩ := change y (b - a) a (by rw [show a + (b - a) = b by omega]; exact hne)
      have hj := (h.step j (by omega) (by omega)).2 j3
      refine List.mem_map.2 ⟨(j : Int), hj, ?_⟩
      rw [Int.toNat_natCast]
      have q1 := hsort a j (by omega) (by omega)
      have q2 := hsort j b (by omega) hb
      omega
    rcases Nat.lt_trichotomy a b with hab | hab | hab
    · exact two a b hab hb ka kb (fun z => yb (z ▸ ya))
    · subst hab; exact absurd ya yb
    · exact two b a hab ha kb ka (fun z => yb (z ▸ ya))
  have := nodup_len hk hsub
  rw [List.length_map] at this
  exact this
theorem kn_kin (bs : List UInt8) : kn (cntL bs) = ((kin bs).length : Int) := by
  unfold kn kin cntL
  simp only [List.countP_cons, List.countP_nil, List.filter_cons, List.filter_nil]
  by_cases c1 : 0 < cn 97 bs <;> by_cases c2 : 0 < cn 98 bs <;> by_cases c3 : 0 < cn 99 bs <;> by_cases c4 : 0 < cn 100 bs <;> simp [c1, c2, c3, c4]
theorem cn_app (v : Nat) (a b : List UInt8) : cn v (a ++ b) = cn v a + cn v b := by unfold cn; rw [List.countP_append]; omega
theorem cn_rep (v m : Nat) (b : UInt8) : cn v (List.replicate m b) = if b.toNat = v then (m : Int) else 0 := by
  unfold cn
  rw [List.countP_replicate]
  by_cases c : b.toNat = v
  · rw [if_pos c, if_pos (decide_eq_true c)]
  · rw [if_neg c, if_neg (by rw [decide_eq_false c]; decide)]; rfl
theorem bc_nat {i : Nat} (h : i < 4) : (Srt.bc i).toNat = 97 + i := by
  match i, h with
  | 0, _ => rfl
  | 1, _ => rfl
  | 2, _ => rfl
  | 3, _ => rfl
theorem sb_cn {l : List Int} (h0 : ∀ i : Nat, i < 4 → 0 ≤ rd l (i : Int) ∧ rd l (i : Int) ≤ 16) : ∀ d i : Nat, i + d = 4 → ∀ v : Nat, v < 4 → cn (97 + v) (Srt.sbL l d i) = if i ≤ v then rd l (v : Int) else 0
  | 0, i, h, v, hv => by
    rw [if_neg (by omega)]
    rfl
  | d + 1, i, h, v, hv => by
    have hx := h0 i (by omega)
    unfold Srt.sbL
    rw [cn_app, cn_rep, sb_cn h0 d (i + 1) (by omega) v hv, bc_nat (by omega)]
    by_cases c : i = v
    · subst c
      rw [if_pos rfl, if_neg (by omega), if_pos (Nat.le_refl _)]
      omega
    · rw [if_neg (by omega)]
      by_cases c2 : i ≤ v
      · rw [if_pos c2, if_pos (by omega)]; omega
      · rw [if_neg c2, if_neg (by omega)]; rfl
theorem sb_counts {l : List Int} (h4 : l.length = 4) (h0 : ∀ i : Nat, i < 4 → 0 ≤ rd l (i : Int) ∧ rd l (i : Int) ≤ 16) : cntL (Srt.sbL l 4 0) = l := by
  have g := fun v hv => sb_cn h0 4 0 rfl v hv
  unfold cntL
  match l, h4 with
  | [a, b, c, d], _ =>
    have g0 := g 0 (by omega)
    have g1 := g 1 (by omega)
    have g2 := g 2 (by omega)
    have g3 := g 3 (by omega)
    rw [if_pos (by omega)] at g0 g1 g2 g3
    rw [show (97 : Nat) = 97 + 0 from rfl, show (98 : Nat) = 97 + 1 from rfl, show (99 : Nat) = 97 + 2 from rfl, show (100 : Nat) = 97 + 3 from rfl, g0, g1, g2, g3]
    rfl
theorem sb_beads (l : List Int) : ∀ d i : Nat, i + d = 4 → ∀ b ∈ Srt.sbL l d i, isBead b = true ∧ 97 + i ≤ b.toNat
  | 0, i, h, b, hb => by cases hb
  | d + 1, i, h, b, hb => by
    unfold Srt.sbL at hb
    rcases List.mem_append.1 hb with hb | hb
    · have e := (List.mem_replicate.1 hb).2
      rw [e]
      have := bc_nat (show i < 4 by omega)
      exact ⟨decide_eq_true (by omega), by omega⟩
    · have := sb_beads l d (i + 1) (by omega) b hb
      exact ⟨this.1, by omega⟩
theorem sb_sorted (l : List Int) : ∀ d i : Nat, i + d = 4 → (Srt.sbL l d i).Pairwise (fun a b => a.toNat ≤ b.toNat)
  | 0, i, h => List.Pairwise.nil
  | d + 1, i, h => by
    unfold Srt.sbL
    refine List.pairwise_append.2 ⟨List.pairwise_replicate.2 (.inr (Nat.le_refl _)), sb_sorted l d (i + 1) (by omega), fun a ha b hb => ?_⟩
    have := sb_beads l d (i + 1) (by omega) b hb
    have e := (List.mem_replicate.1 ha).2
    rw [e, bc_nat (by omega)]
    omega
theorem kd_sorted {bs : List UInt8} (h : bs.Pairwise (fun a b => a.toNat ≤ b.toNat)) : ∀ i j, i ≤ j → j < bs.length → kd bs i ≤ kd bs j := fun i j hij hj => by
  rcases Nat.eq_or_lt_of_le hij with e | e
  · subst e; exact Nat.le_refl _
  · rw [kd_at (by omega), kd_at hj]
    exact List.pairwise_iff_getElem.1 h i j (by omega) hj e
end Go.Proofs.YthkdkgbcokpbaacGreatDoor.QFnNecklacesShared
/-! Fair cuts are at most as many as kinds, are least, and are the same many backwards and with other kinds: for every input; there are no conditions. -/
namespace Go.Proofs.YthkdkgbcokpbaacGreatDoor.Pure
open Go.RowKit Go.Proofs.YthkdkgbcokpbaacGreatDoorOwn Go.Proofs.YthkdkgbcokpbaacGreatDoor.PFnNecklacesShared Go.Proofs.YthkdkgbcokpbaacGreatDoorW.PrintWords Go.Proofs.YthkdkgbcokpbaacGreatDoorW.PrintLast Go.Proofs.YthkdkgbcokpbaacGreatDoorW.PrintMore Go.Proofs.YthkdkgbcokpbaacGreatDoor.QFnNecklacesShared
set_option linter.unusedVariables false
set_option linter.unusedSectionVars false
set_option linter.unusedSimpArgs false
set_option maxRecDepth 100000
theorem same_loop (a : List Int) (ha : a.length ≤ 10000) : ∀ d i : Nat, i + d = a.length → Ev (fun f => laws_zSame.l0 f a a (a.length : Int) (i : Int)) true
  | 0, i, h => Ev.step (fun f => laws_zSame.l0.eq_2 ..) (ev_neg (by omega) (Ev.now _))
  | d + 1, i, h => by
    refine Ev.step (fun f => laws_zSame.l0.eq_2 ..) (ev_pos (by omega) (ev_pos (by omega) (ev_pos (by omega) (ev_pos (by omega) (ev_pos rfl ?_)))))
    rw [wr (show -9223372036854775808 ≤ (i : Int) + 1 by omega) (by omega)]
    exact same_loop a ha d (i + 1) (by omega)
theorem same_ev (a : List Int) (ha : a.length ≤ 10000) : Ev (fun f => laws_zSame.f f a a) true := ev_pos rfl (same_loop a ha a.length 0 (by omega))
/-! ### what the functions tell of a necklace -/
theorem mk_list (l : List UInt8) : (⟨l.toArray⟩ : ByteArray).data.toList = l := by simp
theorem neckl_of {s : ByteArray} (h : s.size ≤ 16) (hb : ∀ b ∈ s.data.toList, isBead b = true) : neckl s = true := by
  unfold neckl beads
  rw [decide_eq_true h, Bool.true_and]
  exact List.all_eq_true.2 hb
section
variable {s : ByteArray} (hn : neckl s = true)
include hn
theorem fs_both : Ev (fun k => impl_FirstSplit.f k s) (told (lst (fl s) 5 0)) ∧ Ev (fun k => spec_FirstSplit.f k s) (told (lst (fl s) 5 0)) := by
  have e := nlGood_ev s
  have e2 := isNecklace_ev s
  rw [hn] at e e2
  have hb := neckl_beads hn
  have hs := neckl_size hn
  have hev := nlEven_ev s hb hs
  have hls := leastSplit_ev s hb hs
  refine ⟨ev_bind0 e2 (ev_pos rfl (Ev.bind hls (Ev.now _))), ?_⟩
  cases he : evens s.data.toList with
  | false =>
    rw [he] at hev
    rw [fl_none s he]
    exact Ev.bind e (ev_pos rfl (Ev.bind hev (ev_neg (by decide) (Ev.now _))))
  | true =>
    rw [he] at hev
    obtain ⟨r, hr⟩ := fl_some s hb hs he
    have hfs := first_loop s hb hs r 5 0 rfl hr
    rw [hr]
    exact Ev.bind e (ev_pos rfl (Ev.bind hev (ev_pos rfl (Ev.bind hfs (Ev.now _)))))
theorem fc_both : Ev (fun k => impl_FewestCuts.f k s) (((told (lst (fl s) 5 0)).1.length : Int), (told (lst (fl s) 5 0)).2) ∧ Ev (fun k => spec_FewestCuts.f k s) (((told (lst (fl s) 5 0)).1.length : Int), (told (lst (fl s) 5 0)).2) := by
  have e := nlGood_ev s
  have e2 := isNecklace_ev s
  rw [hn] at e e2
  have hb := neckl_beads hn
  have hs := neckl_size hn
  have hev := nlEven_ev s hb hs
  have hls := leastSplit_ev s hb hs
  refine ⟨ev_bind0 e2 (ev_pos rfl (Ev.bind hls (Ev.now _))), ?_⟩
  cases he : evens s.data.toList with
  | false =>
    rw [he] at hev
    rw [fl_none s he]
    exact Ev.bind e (ev_pos rfl (Ev.bind hev (ev_neg (by decide) (Ev.now _))))
  | true =>
    rw [he] at hev
    obtain ⟨r, hr⟩ := fl_some s hb hs he
    have hfs := first_loop s hb hs r 5 0 rfl hr
    rw [hr]
    exact Ev.bind e (ev_pos rfl (Ev.bind hev (ev_pos rfl (Ev.bind hfs (Ev.now _)))))
theorem co_both : Ev (fun k => impl_CountsOfBeads.f k s) (cntL s.data.toList, true) ∧ Ev (fun k => spec_CountsOfBeads.f k s) (cntL s.data.toList, true) := by
  have e := nlGood_ev s
  have e2 := isNecklace_ev s
  rw [hn] at e e2
  have hb := neckl_beads hn
  have hs := neckl_size hn
  exact ⟨ev_bind0 e2 (ev_pos rfl (Ev.bind (counts_ev s hb (by omega)) (Ev.now _))), Ev.bind e (ev_pos rfl (Ev.bind (nlCounts_ev s hb (by omega)) (Ev.now _)))⟩
theorem ki_both : Ev (fun k => impl_KindsOfBeads.f k s) (((kin s.data.toList).length : Int), true) ∧ Ev (fun k => spec_KindsOfBeads.f k s) (((kin s.data.toList).length : Int), true) := by
  have e := nlGood_ev s
  have e2 := isNecklace_ev s
  rw [hn] at e e2
  have hb := neckl_beads hn
  have hs := neckl_size hn
  have h1 := kinds_ev s hb (by omega)
  have h2 := nlKinds_ev s hb (by omega)
  rw [kn_kin] at h1 h2
  exact ⟨ev_bind0 e2 (ev_pos rfl (Ev.bind h1 (Ev.now _))), Ev.bind e (ev_pos rfl (Ev.bind h2 (Ev.now _)))⟩
theorem cs_ok {m : Nat} (hm : m ≤ 4) : Ev (fun k => impl_CountSplits.f k s (m : Int)) (((fl s m).length : Int), true) ∧ Ev (fun k => spec_CountSplits.f k s (m : Int)) (((fl s m).length : Int), true) := by
  have e := nlGood_ev s
  have e2 := isNecklace_ev s
  rw [hn] at e e2
  have hb := neckl_beads hn
  have hs := neckl_size hn
  have c : (0 : Int) ≤ (m : Int) ∧ (m : Int) ≤ 4 := by omega
  have h1 := splits_ev s hb hs m (by omega) [] 1 (.inl ⟨rfl, rfl⟩) (by omega) (by simp; omega)
  have h2 := fairCuts_ev s hb hs m (by omega)
  have e3 : (ch s.size m 1).map (fun r => ([] : List Int) ++ r) = ch s.size m 1 := by simp
  rw [e3] at h1
  exact ⟨ev_bind0 e2 (ev_pos rfl (ev_bind0 (in_impl _ _ _) (ev_pos (decide_eq_true c) (Ev.bind h2 (Ev.now _))))),
    Ev.bind e (ev_pos rfl (ev_bind0 (in_spec _ _ _) (ev_pos (decide_eq_true c) (Ev.bind h1 (Ev.now _)))))⟩
end
theorem cs_both (s : ByteArray) (a : Int) : (Ev (fun k => impl_CountSplits.f k s a) (0, false) ∧ Ev (fun k => spec_CountSplits.f k s a) (0, false)) ∨ (neckl s = true ∧ ∃ m : Nat, m ≤ 4 ∧ a = (m : Int)) := by
  have e := nlGood_ev s
  have e2 := isNecklace_ev s
  cases hn : neckl s with
  | false =>
    rw [hn] at e e2
    exact .inl ⟨ev_bind0 e2 (ev_neg (by decide) (Ev.now _)), Ev.bind e (ev_neg (by decide) (Ev.now _))⟩
  | true =>
    rw [hn] at e e2
    by_cases c : 0 ≤ a ∧ a ≤ 4
    · obtain ⟨m, em⟩ := Int.eq_ofNat_of_zero_le c.1
      exact .inr ⟨rfl, m, by omega, em⟩
    · exact .inl ⟨ev_bind0 e2 (ev_pos rfl (ev_bind0 (in_impl _ _ _) (ev_neg (by rw [decide_eq_false c]; decide) (Ev.now _)))), Ev.bind e (ev_pos rfl (ev_bind0 (in_spec _ _ _) (ev_neg (by rw [decide_eq_false c]; decide) (Ev.now _))))⟩
theorem not_neck {s : ByteArray} (hn : neckl s = false) : (Ev (fun k => impl_FirstSplit.f k s) ([], false) ∧ Ev (fun k => spec_FirstSplit.f k s) ([], false)) ∧ (Ev (fun k => impl_FewestCuts.f k s) (0, false) ∧ Ev (fun k => spec_FewestCuts.f k s) (0, false)) ∧ (Ev (fun k => impl_CountsOfBeads.f k s) ([], false) ∧ Ev (fun k => spec_CountsOfBeads.f k s) ([], false)) ∧ (Ev (fun k => impl_KindsOfBeads.f k s) (0, false) ∧ Ev (fun k => spec_KindsOfBeads.f k s) (0, false)) := by
  have e := nlGood_ev s
  have e2 := isNecklace_ev s
  rw [hn] at e e2
  exact ⟨⟨ev_bind0 e2 (ev_neg (by decide) (Ev.now _)), Ev.bind e (ev_neg (by decide) (Ev.now _))⟩, ⟨ev_bind0 e2 (ev_neg (by decide) (Ev.now _)), Ev.bind e (ev_neg (by decide) (Ev.now _))⟩, ⟨ev_bind0 e2 (ev_neg (by decide) (Ev.now _)), Ev.bind e (ev_neg (by decide) (Ev.now _))⟩, ⟨ev_bind0 e2 (ev_neg (by decide) (Ev.now _)), Ev.bind e (ev_neg (by decide) (Ev.now _))⟩⟩
/-- The least number of cuts of two necklaces with the same many fair cuts. -/
theorem lst_same {F G : Nat → List (List Int)} (hFG : ∀ m, (G m).length = (F m).length) (hF : ∀ m, ∀ r ∈ F m, r.length = m) (hG : ∀ m, ∀ r ∈ G m, r.length = m) {r : List Int} (h : lst F 5 0 = some r) : ∃ r', lst G 5 0 = some r' ∧ r'.length = r.length := by
  obtain ⟨j, _, j2, j3, j4⟩ := lst_at F r 5 0 h
  have hj := hF j r j3
  have hne : G j ≠ [] := fun z => by
    have e1 := hFG j
    rw [z, List.length_nil] at e1
    have e2 := List.length_pos_of_mem j3
    omega
  obtain ⟨r', hr'⟩ := lst_some G j hne 5 0 (Nat.zero_le _) (by omega)
  obtain ⟨i, _, i2, i3, i4⟩ := lst_at G r' 5 0 hr'
  have hi := hG i r' i3
  refine ⟨r', hr', ?_⟩
  have h1 : ¬ i < j := fun z => by
    have e := j4 i (Nat.zero_le _) z
    have e1 := hFG i
    rw [e, List.length_nil] at e1
    have e2 := List.length_pos_of_mem i3
    omega
  have h2 : ¬ j < i := fun z => hne (i4 j (Nat.zero_le _) z)
  omega
theorem fl_each (s : ByteArray) : ∀ m, ∀ r ∈ fl s m, r.length = m := fun m r h => (fl_iff.1 h).1.1
theorem back_ok {s : ByteArray} (hn : neckl s = true) : impl_ReverseBeads.f s = some (⟨s.data.toList.reverse.toArray⟩, true) ∧ neckl (⟨s.data.toList.reverse.toArray⟩ : ByteArray) = true := by
  refine ⟨by rw [Rev.impl_rev, hn, if_pos rfl], ?_⟩
  have hb := neckl_beads hn
  have hs := neckl_size hn
  have hl := size_list s
  refine neckl_of ?_ (fun b hb' => ?_)
  · have := size_list (⟨s.data.toList.reverse.toArray⟩ : ByteArray)
    rw [mk_list, List.length_reverse] at this
    omega
  · rw [mk_list] at hb'
    exact List.all_eq_true.1 hb b (List.mem_reverse.1 hb')
/-! ### draws -/
theorem list_ev {l : List Int} (h : U8 l) : ∃ r : List Int, spec_DrawSortedBeads.f l = some r ∧ r.length ≤ 4 := by
  unfold spec_DrawSortedBeads.f
  obtain ⟨a, a1, s1, e1, _, _, b1, c1⟩ := pick_ev h 0 4 (Int.le_refl 0) (by decide)
  obtain ⟨b, a2, s2, e2, _, _, b2, c2⟩ := pick_ev h s1 3 b1 (by omega)
  obtain ⟨c, a3, s3, e3, _, _, b3, c3⟩ := pick_ev h s2 3 (show 0 ≤ a2 by omega) (by omega)
  obtain ⟨d, a4, s4, e4, _, _, b4, c4⟩ := pick_ev h s3 3 (show 0 ≤ a3 by omega) (by omega)
  obtain ⟨v, a5, s5, e5, _, _, b5, c5⟩ := pick_ev h s4 12 (show 0 ≤ a4 by omega) (by omega)
  rw [e1, Option.bind_some]
  dsimp only
  rw [e2, Option.bind_some]
  dsimp only
  rw [e3, Option.bind_some]
  dsimp only
  rw [e4, Option.bind_some]
  dsimp only
  rw [Option.bind_some, e5, Option.bind_some]
  dsimp only
  by_cases q0 : v = 0
  · obtain ⟨w, a6, s6, e6, w0, w1, b6, c6⟩ := pick_ev h s5 4 (show 0 ≤ a5 by omega) (by omega)
    obtain ⟨x, a7, s7, e7, _⟩ := among_ev h s6 [(-1), 1, 3, 16, 17, 4611686018427387904] (by decide) (show 0 ≤ a6 by omega) (by omega)
    rw [if_pos q0, e6, Option.bind_some]
    dsimp only
    rw [e7, Option.bind_some]
    dsimp only
    rw [if_pos w0, if_pos (by show w < 4; omega)]
    exact ⟨_, rfl, by rw [List.length_set]; simp⟩
  · rw [if_neg q0]
    by_cases q1 : v = 1
    · rw [if_pos q1, if_pos (by show (3 : Int) ≤ 4; omega)]
      exact ⟨_, rfl, by rw [List.length_take]; simp⟩
    · rw [if_neg q1]
      exact ⟨_, rfl, by simp⟩
theorem names_ev {l : List Int} (h : U8 l) : ∃ r : ByteArray × List Int, Ev (fun k => spec_DrawRenameBeads.f k l) r ∧ r.2.length ≤ 4 := by
  obtain ⟨⟨x, a, s⟩, hx, _, a0, a1⟩ := beads_ev h 12 (by decide)
  dsimp only at a0 a1
  obtain ⟨v, a2, s2, e2, v0, v1, b2, c2⟩ := pick_ev h s 8 a0 (by omega)
  refine ⟨_, Ev.bind hx (ev_bind0 rfl (ev_bind0 e2 (ev_pos v0 (ev_pos (by show v < 8; omega) (Ev.now _))))), ?_⟩
  dsimp only
  obtain ⟨i, rfl⟩ := Int.eq_ofNat_of_zero_le v0
  have t : ((List.range 8).all fun i => decide ((rd_L3 ([[0, 1, 2, 3], [1, 0, 2, 3], [3, 2, 1, 0], [1, 2, 3, 0], [2, 0, 3, 1], [0, 0, 1, 2], [0, 1, 2], [1, 2, 3, 4]] : List (List Int)) (i : Int)).length ≤ 4)) = true := by decide +kernel
  exact of_decide_eq_true (List.all_eq_true.1 t i (List.mem_range.2 (by omega)))
/-! ### the law, from its end -/
theorem j9_ev {l : List Int} (h : U8 l) : Ev (fun f => laws_FnNecklacesShared.j9 f l) true := by
  obtain ⟨⟨u, a, s⟩, hu, _, _, _⟩ := beads_ev h 10 (by decide)
  have hd : Ev (fun k => spec_DrawReverseBeads.f k l) u := Ev.bind hu (Ev.now _)
  obtain ⟨⟨v, names⟩, hv, hl⟩ := names_ev h
  dsimp only at hl
  have r1 := Ren.impl_ren v names (by omega)
  have r2 := Ren.spec_ren v names (by omega)
  generalize Ren.resR v names = R at r1 r2
  have i1 := Rev.impl_rev u
  have i2 := Rev.spec_rev u
  have fin : ∀ q : ByteArray × Bool, impl_ReverseBeads.f u = some q → Ev (fun k => spec_ReverseBeads.f k u) q → Ev (fun f => laws_FnNecklacesShared.j10 f u q.1 q.2 false) true → Ev (fun f => laws_FnNecklacesShared.j9 f l) true := fun q q1 q2 q3 => by
    refine Ev.step (fun f => laws_FnNecklacesShared.j9.eq_2 ..) (Ev.bind hd (ev_bind0 q1 (Ev.bind q2 (Ev.bind hv (ev_bind0 r1 (Ev.bind r2 (ev_neg (by rw [bne_self_eq_false]; decide) (ev_pos rfl (ev_neg (by rw [bne_self_eq_false]; decide) ?_)))))))))
    rw [bne_self_eq_false]
    exact q3
  cases hn : neckl u with
  | false =>
    rw [hn, if_neg (by decide)] at i1 i2
    exact fin _ i1 i2 (Ev.step (fun f => laws_FnNecklacesShared.j10.eq_2 ..) (ev_neg (by decide) (ev_neg (by decide) (Ev.now _))))
  | true =>
    rw [hn, if_pos rfl] at i1 i2
    obtain ⟨_, k2⟩ := back_ok hn
    obtain ⟨k3, _⟩ := back_ok k2
    refine fin _ i1 i2 (Ev.step (fun f => laws_FnNecklacesShared.j10.eq_2 ..) (ev_neg (by decide) (ev_pos rfl (ev_bind0 k3 (ev_pos rfl (ev_eq (Ev.now _) ?_))))))
    dsimp only
    rw [mk_list, List.reverse_reverse]
    have e : (⟨u.data.toList.toArray⟩ : ByteArray) = u := by
      apply ByteArray.ext
      simp
    rw [e]
    exact beq_self_eq_true _
theorem j8_ev {l : List Int} (h : U8 l) (L : List Int) (hL : L.length ≤ 1048576) : Ev (fun f => laws_FnNecklacesShared.j8 f l L (Srt.resS L).1 (Srt.resS L).2 false) true := by
  have bad : (Srt.resS L) = ((⟨#[]⟩ : ByteArray), false) → Ev (fun f => laws_FnNecklacesShared.j8 f l L (Srt.resS L).1 (Srt.resS L).2 false) true := fun e => by
    rw [e]
    exact Ev.step (fun f => laws_FnNecklacesShared.j8.eq_2 ..) (ev_neg (by decide) (ev_neg Bool.false_ne_true (j9_ev h)))
  by_cases hc : L.length = 4 ∧ Srt.okB L = true
  · obtain ⟨h4, hk⟩ := hc
    have h0 := Srt.okB_rd h4 hk
    have hn := Srt.sbL_len L h0 4 0 rfl
    by_cases h16 : (Srt.sbL L 4 0).length > 16
    · exact bad (by unfold Srt.resS Srt.fin; rw [if_pos ⟨h4, hk⟩, if_pos h16])
    · have e : Srt.resS L = (⟨(Srt.sbL L 4 0).toArray⟩, true) := by unfold Srt.resS Srt.fin; rw [if_pos ⟨h4, hk⟩, if_neg h16]
      rw [e]
      have hb := sb_beads L 4 0 rfl
      have hsz : (⟨(Srt.sbL L 4 0).toArray⟩ : ByteArray).size = (Srt.sbL L 4 0).length := Srt.size_mk _
      have hnk : neckl (⟨(Srt.sbL L 4 0).toArray⟩ : ByteArray) = true := neckl_of (by omega) (fun b hb' => by rw [mk_list] at hb'; exact (hb b hb').1)
      have g1 := (co_both hnk).1
      have g2 := (ki_both hnk).1
      have g3 := (fc_both hnk).1
      rw [mk_list] at g1 g2
      rw [sb_counts h4 h0] at g1
      refine Ev.step (fun f => laws_FnNecklacesShared.j8.eq_2 ..) (ev_neg (by decide) (ev_pos rfl (Ev.bind g1 (Ev.bind g2 (Ev.bind g3 (ev_pos rfl (Ev.bind (same_ev L (by omega)) (ev_pos rfl (ev_pos rfl ?_)))))))))
      cases hl : lst (fl (⟨(Srt.sbL L 4 0).toArray⟩ : ByteArray)) 5 0 with
      | none => exact ev_neg Bool.false_ne_true (j9_ev h)
      | some r =>
        refine ev_pos rfl (ev_pos ?_ (j9_ev h))
        show (r.length : Int) = _
        obtain ⟨j, _, j2, j3, j4⟩ := lst_at _ r 5 0 hl
        obtain ⟨⟨k1, k2⟩, k3⟩ := fl_iff.1 j3
        have hs16 : (⟨(Srt.sbL L 4 0).toArray⟩ : ByteArray).size ≤ 16 := by omega
        have low := sorted_cuts hs16 (by
          intro i j hij hj
          rw [mk_list]
          exact kd_sorted (sb_sorted L 4 0 rfl) i j hij (by omega)) k2 k3
        rw [mk_list] at low
        have hev := fair_evens k3
        obtain ⟨m, m1, r', m2, m3⟩ := fair_some _ (neckl_beads hnk) hs16 hev
        rw [mk_list] at m1
        have hmj : ¬ m < j := fun z => by
          have e := j4 m (Nat.zero_le _) z
          have : r' ∈ fl (⟨(Srt.sbL L 4 0).toArray⟩ : ByteArray) m := List.mem_filter.2 ⟨m2, m3⟩
          rw [e] at this
          cases this
        omega
  · exact bad (by unfold Srt.resS; rw [if_neg hc])
theorem j7_ev {l : List Int} (h : U8 l) : Ev (fun f => laws_FnNecklacesShared.j7 f l) true := by
  obtain ⟨L, hd, hl⟩ := list_ev h
  refine Ev.step (fun f => laws_FnNecklacesShared.j7.eq_2 ..) (ev_bind0 hd (Ev.bind (Srt.impl_ev L (by omega)) (Ev.bind (Srt.spec_ev L (by omega)) (ev_neg (by rw [bne_self_eq_false]; decide) ?_))))
  rw [bne_self_eq_false]
  exact j8_ev h L (by omega)
theorem j5_ev {l : List Int} (h : U8 l) : Ev (fun f => laws_FnNecklacesShared.j5 f l) true := by
  obtain ⟨⟨t, a, s⟩, ht, _, a0, a1⟩ := beads_ev h 10 (by decide)
  dsimp only at a0 a1
  obtain ⟨x, a2, s2, e2, _⟩ := among_ev h s [0, 1, 2, 3, 4, 5, (-1)] (by decide) a0 (by omega)
  have hd : Ev (fun k => spec_DrawCountSplits.f k l) (t, x) := Ev.bind ht (ev_bind0 e2 (Ev.now _))
  rcases cs_both t x with ⟨g1, g2⟩ | ⟨hn, m, hm, rfl⟩
  · refine Ev.step (fun f => laws_FnNecklacesShared.j5.eq_2 ..) (Ev.bind hd (Ev.bind g1 (Ev.bind g2 (ev_neg (by decide) ?_))))
    rw [bne_self_eq_false]
    exact Ev.step (fun f => laws_FnNecklacesShared.j6.eq_2 ..) (ev_neg (by decide) (ev_neg (by decide) (j7_ev h)))
  · obtain ⟨g1, g2⟩ := cs_ok hn hm
    obtain ⟨k1, k2⟩ := back_ok hn
    have g3 := (cs_ok k2 hm).1
    rw [fl_rev (neckl_size hn) (mk_list _) m] at g3
    refine Ev.step (fun f => laws_FnNecklacesShared.j5.eq_2 ..) (Ev.bind hd (Ev.bind g1 (Ev.bind g2 (ev_neg Bool.false_ne_true ?_))))
    rw [bne_self_eq_false]
    exact Ev.step (fun f => laws_FnNecklacesShared.j6.eq_2 ..) (ev_neg (by decide) (ev_pos rfl (ev_bind0 k1 (Ev.bind g3 (ev_pos rfl (ev_pos rfl (ev_pos rfl (j7_ev h))))))))
theorem l1_ev {l : List Int} (h : U8 l) {s : ByteArray} (hn : neckl s = true) {j : Nat} (hj : j ≤ 4) (hz : ∀ i, i < j → fl s i = []) (hp : fl s j ≠ []) : ∀ d i : Nat, i + d = j → Ev (fun f => laws_FnNecklacesShared.l1 f l s (j : Int) (i : Int)) true
  | 0, i, hi => by
    have := List.length_pos_iff.2 hp
    exact Ev.step (fun f => laws_FnNecklacesShared.l1.eq_2 ..) (ev_neg (by omega) (Ev.bind (cs_ok hn hj).1 (ev_pos rfl (ev_neg (by dsimp only; omega) (j5_ev h)))))
  | d + 1, i, hi => by
    have g := (cs_ok hn (show i ≤ 4 by omega)).1
    rw [hz i (by omega)] at g
    refine Ev.step (fun f => laws_FnNecklacesShared.l1.eq_2 ..) (ev_pos (by omega) (Ev.bind g (ev_pos rfl (ev_pos rfl ?_))))
    rw [wr (show -9223372036854775808 ≤ (i : Int) + 1 by omega) (by omega)]
    exact l1_ev h hn hj hz hp d (i + 1) (by omega)
theorem j2_ev {l : List Int} (h : U8 l) {s : ByteArray} (hn : neckl s = true) : Ev (fun f => laws_FnNecklacesShared.j2 f l s (told (lst (fl s) 5 0)).1 (told (lst (fl s) 5 0)).2 ((told (lst (fl s) 5 0)).1.length : Int) ((kin s.data.toList).length : Int)) true := by
  have hb := neckl_beads hn
  have hs := neckl_size hn
  have hl := size_list s
  cases hls : lst (fl s) 5 0 with
  | none => exact Ev.step (fun f => laws_FnNecklacesShared.j2.eq_2 ..) (ev_neg Bool.false_ne_true (j5_ev h))
  | some r =>
    show Ev (fun f => laws_FnNecklacesShared.j2 f l s r true (r.length : Int) ((kin s.data.toList).length : Int)) true
    obtain ⟨j, _, j2, j3, j4⟩ := lst_at _ r 5 0 hls
    obtain ⟨⟨k1, k2⟩, k3⟩ := fl_iff.1 j3
    have hcut : cutsOf s r = true := by
      unfold cutsOf
      rw [hn, Bool.true_and]
      exact rise_of (fun x hx => by have := k2.1 x hx; omega) k2.2
    have hf := isFair_ev s hb hs r (by omega)
    rw [k3] at hf
    have hcu := areCuts_ev s r (by omega)
    rw [hcut] at hcu
    have g1 : Ev (fun k => impl_IsFairSplit.f k s r) (true, true) := Ev.bind hcu (ev_pos rfl (Ev.bind hf (Ev.now _)))
    obtain ⟨q1, q2⟩ := back_ok hn
    obtain ⟨r', hr', hlen'⟩ := lst_same (fun m => fl_rev hs (mk_list _) m) (fl_each s) (fl_each _) hls
    have g3 := (fc_both q2).1
    rw [hr'] at g3
    have hp : Ren.permB [2, 3, 1, 0] = true := by decide
    have g4 : impl_RenameBeads.f s [2, 3, 1, 0] = some (⟨(s.data.toList.map ren4).toArray⟩, true) := by
      rw [Ren.impl_ren s [2, 3, 1, 0] (by decide)]
      unfold Ren.resR
      rw [if_pos ⟨hn, hp⟩]
      rfl
    have hn2 : neckl (⟨(s.data.toList.map ren4).toArray⟩ : ByteArray) = true := by
      refine neckl_of ?_ (fun b hb' => ?_)
      · have := size_list (⟨(s.data.toList.map ren4).toArray⟩ : ByteArray)
        rw [mk_list, List.length_map] at this
        omega
      · rw [mk_list] at hb'
        obtain ⟨c, hc, rfl⟩ := List.mem_map.1 hb'
        exact ren4_bead (List.all_eq_true.1 hb c hc)
    have g5 := (fs_both hn2).1
    rw [fl_ren hb (mk_list _), hls] at g5
    have hev := fair_evens k3
    obtain ⟨m, m1, r2, m2, m3⟩ := fair_some s hb hs hev
    have hmj : ¬ m < j := fun z => by
      have e := j4 m (Nat.zero_le _) z
      have : r2 ∈ fl s m := List.mem_filter.2 ⟨m2, m3⟩
      rw [e] at this
      cases this
    refine Ev.step (fun f => laws_FnNecklacesShared.j2.eq_2 ..) (ev_pos rfl (Ev.bind g1 (ev_bind0 q1 (Ev.bind g3 (ev_bind0 g4 (Ev.bind g5 (ev_pos rfl (ev_pos rfl (ev_pos rfl (ev_neg (by omega) (ev_pos rfl (ev_pos rfl (ev_pos (by show (r'.length : Int) = _; omega) (ev_pos rfl (ev_pos rfl (Ev.bind (same_ev r (by omega)) ?_))))))))))))))))
    refine Ev.step (fun f => laws_FnNecklacesShared.j3.eq_2 ..) (ev_neg (by decide) ?_)
    rw [k1]
    exact l1_ev h hn (by omega) (fun i hi => j4 i (Nat.zero_le _) hi) (fun z => by rw [z] at j3; cases j3) j 0 (Nat.zero_add _)
def evTo (l : List Int) (i : Nat) : Bool := (List.range i).all fun j => decide (rd l (j : Int) % 2 = 0)
theorem evTo_succ (l : List Int) (i : Nat) : evTo l (i + 1) = (evTo l i && decide (rd l (i : Int) % 2 = 0)) := by
  unfold evTo
  rw [List.range_succ, List.all_append]
  simp
theorem evTo_four (bs : List UInt8) : evTo (cntL bs) 4 = evens bs := by
  rw [evTo_succ, evTo_succ, evTo_succ, evTo_succ]
  have r1 := rd_cnt bs
  rw [r1.1, r1.2.1, r1.2.2.1, r1.2.2.2]
  show ((((true && _) && _) && _) && _) = _
  rw [Bool.true_and]
  rfl
theorem told_snd {s : ByteArray} (hn : neckl s = true) : (told (lst (fl s) 5 0)).2 = evens s.data.toList := by
  have hb := neckl_beads hn
  have hs := neckl_size hn
  cases he : evens s.data.toList with
  | false => rw [fl_none s he]; rfl
  | true =>
    obtain ⟨r, hr⟩ := fl_some s hb hs he
    rw [hr]; rfl
theorem cn_sum : ∀ l : List UInt8, (∀ b ∈ l, isBead b = true) → cn 97 l + cn 98 l + cn 99 l + cn 100 l = l.length
  | [], _ => rfl
  | b :: l, h => by
    have ih := cn_sum l (fun x hx => h x (List.mem_cons_of_mem _ hx))
    have hk := kind_cases (h b List.mem_cons_self)
    rw [cn_cons, cn_cons, cn_cons, cn_cons, List.length_cons]
    rcases hk with h | h | h | h <;> rw [h] <;> simp <;> omega
theorem sum_ev {s : ByteArray} (hn : neckl s = true) : Ev (fun f => laws_zSum.f f (cntL s.data.toList)) (s.size : Int) := by
  have hb := neckl_beads hn
  have hs := neckl_size hn
  have hl := size_list s
  have h4 := cn_sum s.data.toList (List.all_eq_true.1 hb)
  have c1 := cn_le 97 s.data.toList
  have c2 := cn_le 98 s.data.toList
  have c3 := cn_le 99 s.data.toList
  have c4 := cn_le 100 s.data.toList
  have r1 := rd_cnt s.data.toList
  have w1 : wrap64 (0 + 1) = 1 := wr (by omega) (by omega)
  have w2 : wrap64 (1 + 1) = 2 := wr (by omega) (by omega)
  have w3 : wrap64 (2 + 1) = 3 := wr (by omega) (by omega)
  have w4 : wrap64 (3 + 1) = 4 := wr (by omega) (by omega)
  have e0 : rd (cntL s.data.toList) 0 = cn 97 s.data.toList := rfl
  have e1 : rd (cntL s.data.toList) 1 = cn 98 s.data.toList := rfl
  have e2 : rd (cntL s.data.toList) 2 = cn 99 s.data.toList := rfl
  have e3 : rd (cntL s.data.toList) 3 = cn 100 s.data.toList := rfl
  refine Ev.step (fun f => laws_zSum.l0.eq_2 ..) (ev_pos (by show (0 : Int) < 4; omega) (ev_pos (by omega) (ev_pos (by show (0 : Int) < 4; omega) ?_)))
  rw [w1, e0, wr (show -9223372036854775808 ≤ 0 + cn 97 s.data.toList by omega) (by omega)]
  refine Ev.step (fun f => laws_zSum.l0.eq_2 ..) (ev_pos (by show (1 : Int) < 4; omega) (ev_pos (by omega) (ev_pos (by show (1 : Int) < 4; omega) ?_)))
  rw [w2, e1, wr (show -9223372036854775808 ≤ 0 + cn 97 s.data.toList + cn 98 s.data.toList by omega) (by omega)]
  refine Ev.step (fun f => laws_zSum.l0.eq_2 ..) (ev_pos (by show (2 : Int) < 4; omega) (ev_pos (by omega) (ev_pos (by show (2 : Int) < 4; omega) ?_)))
  rw [w3, e2, wr (show -9223372036854775808 ≤ 0 + cn 97 s.data.toList + cn 98 s.data.toList + cn 99 s.data.toList by omega) (by omega)]
  refine Ev.step (fun f => laws_zSum.l0.eq_2 ..) (ev_pos (by show (3 : Int) < 4; omega) (ev_pos (by omega) (ev_pos (by show (3 : Int) < 4; omega) ?_)))
  rw [w4, e3, wr (show -9223372036854775808 ≤ 0 + cn 97 s.data.toList + cn 98 s.data.toList + cn 99 s.data.toList + cn 100 s.data.toList by omega) (by omega)]
  exact Ev.step (fun f => laws_zSum.l0.eq_2 ..) (ev_neg (by show ¬ (4 : Int) < 4; omega) (ev_eq (Ev.now _) (by omega)))
theorem l0_ev {l : List Int} (h : U8 l) {s : ByteArray} (hn : neckl s = true) : ∀ d i : Nat, i + d = 4 → Ev (fun f => laws_FnNecklacesShared.l0 f l s (told (lst (fl s) 5 0)).1 (told (lst (fl s) 5 0)).2 ((told (lst (fl s) 5 0)).1.length : Int) (cntL s.data.toList) ((kin s.data.toList).length : Int) (evTo (cntL s.data.toList) i) (cntL s.data.toList) 4 (i : Int)) true
  | 0, i, hi => by
    have e : i = 4 := by omega
    subst e
    refine Ev.step (fun f => laws_FnNecklacesShared.l0.eq_2 ..) (ev_neg (by omega) (ev_neg ?_ (Ev.bind (sum_ev hn) (ev_pos rfl (j2_ev h hn)))))
    rw [evTo_four, told_snd hn, bne_self_eq_false]
    decide
  | d + 1, i, hi => by
    have hc := cntL_le s.data.toList i
    have ih := l0_ev h hn d (i + 1) (by omega)
    rw [evTo_succ] at ih
    refine Ev.step (fun f => laws_FnNecklacesShared.l0.eq_2 ..) (ev_pos (by omega) (ev_pos (by omega) (ev_pos (by show (i : Int) < 4; omega) ?_)))
    rw [wr (show -9223372036854775808 ≤ (i : Int) + 1 by omega) (by omega)]
    have et : (Int.tmod (rd (cntL s.data.toList) (i : Int)) 2 == 0) = decide (rd (cntL s.data.toList) (i : Int) % 2 = 0) := by
      rw [Int.tmod_eq_emod_of_nonneg hc.1]
      rfl
    rw [et]
    cases hb : evTo (cntL s.data.toList) i with
    | true =>
      rw [hb, Bool.true_and] at ih
      exact ev_pos rfl ih
    | false =>
      rw [hb, Bool.false_and] at ih
      exact ev_neg (by decide) ih
theorem FnNecklacesShared : laws_FnNecklacesShared.Pure := by
  intro l0 l1 _ _ u0 _ _ u1
  apply Ev.rounds
  obtain ⟨b, hb⟩ : ∃ b, laws_big.f l0 l1 = some b := by
    unfold laws_big.f
    split <;> exact ⟨_, rfl⟩
  refine ev_bind0 hb ?_
  cases b with
  | true => exact ev_pos rfl (Ev.now _)
  | false =>
    refine ev_neg (by decide) ?_
    have h0 : U8 l0 := u0
    have h1 : U8 l1 := u1
    obtain ⟨⟨s, a, s1⟩, hs, _, _, _⟩ := beads_ev h0 12 (by decide)
    have hd : Ev (fun k => spec_DrawFirstSplit.f k l0) s := Ev.bind (Ev.bind hs (Ev.now _)) (Ev.now _)
    have n1 := isNecklace_ev s
    have n2 : Ev (fun k => spec_IsNecklace.f k s) (neckl s) := Ev.bind (nlGood_ev s) (Ev.now _)
    cases hn : neckl s with
    | false =>
      rw [hn] at n1 n2
      obtain ⟨⟨f1, f2⟩, ⟨f3, f4⟩, ⟨f5, f6⟩, ⟨f7, f8⟩⟩ := not_neck hn
      have se := same_ev [] (by simp)
      refine Ev.bind hd (Ev.bind f1 (Ev.bind f2 (Ev.bind f3 (Ev.bind f4 (Ev.bind f5 (Ev.bind f6 (Ev.bind f7 (Ev.bind f8 (ev_neg Bool.false_ne_true (Ev.bind se (ev_pos rfl (ev_neg Bool.false_ne_true (ev_pos rfl (ev_neg Bool.false_ne_true (Ev.bind se (ev_pos rfl (ev_neg Bool.false_ne_true (ev_pos rfl (ev_neg Bool.false_ne_true (ev_bind0 n1 (ev_neg Bool.false_ne_true (Ev.bind n2 (ev_neg Bool.false_ne_true ?_)))))))))))))))))))))))
      refine Ev.step (fun f => laws_FnNecklacesShared.j0.eq_2 ..) (ev_neg Bool.false_ne_true (ev_neg Bool.false_ne_true ?_))
      exact Ev.step (fun f => laws_FnNecklacesShared.j2.eq_2 ..) (ev_neg Bool.false_ne_true (j5_ev h1))
    | true =>
      rw [hn] at n1 n2
      obtain ⟨f1, f2⟩ := fs_both hn
      obtain ⟨f3, f4⟩ := fc_both hn
      obtain ⟨f5, f6⟩ := co_both hn
      obtain ⟨f7, f8⟩ := ki_both hn
      have hl : (told (lst (fl s) 5 0)).1.length ≤ 10000 := by
        cases hls : lst (fl s) 5 0 with
        | none => simp [told]
        | some r =>
          have := lst_len s r hls
          show r.length ≤ 10000
          omega
      have nb : ∀ x : Bool, ¬ (x != x) = true := fun x => by rw [bne_self_eq_false]; decide
      refine Ev.bind hd (Ev.bind f1 (Ev.bind f2 (Ev.bind f3 (Ev.bind f4 (Ev.bind f5 (Ev.bind f6 (Ev.bind f7 (Ev.bind f8 (ev_neg (nb _) (Ev.bind (same_ev _ hl) (ev_pos rfl (ev_neg (nb _) (ev_pos rfl (ev_neg (nb _) (Ev.bind (same_ev _ (by rw [cntL_len]; omega)) (ev_pos rfl (ev_neg (nb _) (ev_pos rfl (ev_neg (nb _) (ev_bind0 n1 (ev_neg (nb _) (Ev.bind n2 (ev_neg (nb _) ?_)))))))))))))))))))))))
      dsimp only
      rw [bne_self_eq_false]
      exact Ev.step (fun f => laws_FnNecklacesShared.j0.eq_2 ..) (ev_neg Bool.false_ne_true (ev_pos rfl (l0_ev h1 hn 4 0 rfl)))
end Go.Proofs.YthkdkgbcokpbaacGreatDoor.Pure
