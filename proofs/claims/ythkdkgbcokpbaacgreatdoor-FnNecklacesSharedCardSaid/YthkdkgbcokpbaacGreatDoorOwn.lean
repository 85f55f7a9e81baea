/- Lemmas of this session beside the print's words: a variable in memory read as a row of one element. -/
import Derived.Test.YthkdkgbcokpbaacGreatDoorWMore
import Derived.Test.YthkdkgbcokpbaacGreatDoorWWords
import Derived.Test.YthkdkgbcokpbaacGreatDoorWLast
namespace Go.Proofs.YthkdkgbcokpbaacGreatDoorOwn
open Go.RowKit Go.Proofs.YthkdkgbcokpbaacGreatDoorW.PrintWords Go.Proofs.YthkdkgbcokpbaacGreatDoorW.PrintLast
namespace Kd
theorem C_box {α : Type} (d : Kd α) {w : World} {g : Nat} {t : TypeId} {cs : Array Value} {x : α} (h : w.heap[g]? = some (.cells cs t (0, 0))) (hk : d.K w x cs.toList) :
    d.C w (some ⟨g, 0, none⟩) [x].length [x] := by
  refine ⟨rfl, by simp, fun _ => ⟨_, rfl, fun j p hj => ?_⟩⟩
  have hj0 : j = 0 := by
    have := (List.getElem?_eq_some_iff.1 hj).1
    simpa using this
  subst hj0
  have hp : x = p := by simpa using hj
  subst hp
  refine ⟨cs.toList, d.K_len hk, hk, fun i u hu => ?_⟩
  have e : (Addr.add ⟨g, 0, none⟩ (0 * d.sz + i)) = ⟨g, i, none⟩ := by
    rw [add_at]; simp
  rw [e, blk_cell h i]
  simpa using hu
end Kd
/-! What the printed texts say often, by a short name. -/
theorem BB {p : Prop} (h : p := by repeat (first | (with_reducible first | exact HB.out | apply below_alloc | apply pw_below_drewN | apply below_drew1) | exact HB.out)) : p := h
theorem AHK {p : Prop} (h : p := by repeat (first | (with_reducible first | exact HK.out | apply KeepBut.set_ | apply keep_drewN | apply keep_drew | apply keep_alloc) | exact HK.out)) : p := h
theorem AGE {p q : Prop} (a : Aside0 q) (h : Aside0 q → p := by intro ge_; repeat (first | (with_reducible first | exact HB.out | apply below_alloc | apply pw_below_drewN | apply below_drew1 | refine below_set ?_ ge_.out) | exact HB.out)) : p := h a
theorem AS {p : Prop} (h : p := by first | (with_reducible assumption) | assumption) : p := h
theorem TA {p : Prop} (h : p := by (try simp only [List.map_toArray, List.map_cons, List.map_nil]); first | done | rfl | (simp only [List.length_drop, List.length_take]; rfl)) : p := h
theorem RF {p : Prop} (h : p := by first | rfl | (simp; done) | (simp [*]; done) | (simp [*, wrap64]; done) | (simp only [Value.bool.injEq]; rw [Bool.eq_iff_iff]; simp; done) | (simp; rw [Bool.eq_iff_iff]; simp; done)) : p := h
theorem KR {p q : Prop} (a : Aside0 q) (h : Aside0 q → p := by intro z_; (with_reducible repeat (first | apply Kd.R_alloc | apply Kd.R_drewN | apply Kd.R_drew)); exact z_.out) : p := h a
theorem KS {p q : Prop} (a : Aside0 q) (h : Aside0 q → p := by intro z_; (with_reducible repeat (first | apply Kd.S_alloc | apply Kd.S_drewN | apply Kd.S_drew)); exact z_.out) : p := h a
theorem KN {p q : Prop} (a : Aside0 q) (h : Aside0 q → p := by intro z_; (with_reducible repeat (first | apply Kd.N_alloc | apply Kd.N_drewN | apply Kd.N_drew)); exact z_.out) : p := h a
theorem KF {p q : Prop} (a : Aside0 q) (h : Aside0 q → p := by intro z_; (with_reducible repeat (first | apply Kd.F_alloc | apply Kd.F_drewN | apply Kd.F_drew)); exact z_.out) : p := h a
theorem IP {c : Prop} [Decidable c] {α : Type} {t e x : α} (H : (if c then t else e) = x) (h : c := by first | rfl | assumption) : t = x := (if_pos h).symm.trans H
theorem IN {c : Prop} [Decidable c] {α : Type} {t e x : α} (H : (if c then t else e) = x) (h : ¬ c := by decide) : e = x := (if_neg h).symm.trans H
theorem EA {α β : Type} {o : Option α} {f : α → Option β} {r : β} (H : o.bind f = some r) : ∃ a, Aside0 (o = some a) ∧ f a = some r := by
  obtain ⟨a, h, g⟩ := Option.bind_eq_some_iff.mp H
  exact ⟨a, ⟨h⟩, g⟩
theorem IC {c : Prop} [Decidable c] {α : Type} {t : Option α} {r : α} (H : (if c then t else none) = some r) : c ∧ t = some r := by
  by_cases h : c
  · rw [if_pos h] at H; exact ⟨h, H⟩
  · rw [if_neg h] at H; cases H
theorem ID {c : Prop} [Decidable c] {α : Type} {t : Option α} {r : α} (H : (if c then none else t) = some r) : ¬ c ∧ t = some r := by
  by_cases h : c
  · rw [if_pos h] at H; cases H
  · rw [if_neg h] at H; exact ⟨h, H⟩
theorem HY {p q e : Prop} (H : q) (hy : e) (h : q → e → p := by intro H_ hy_; first | (rw [hy_]; with_reducible exact H_) | (have H2_ := (Option.bind_some _ _).symm.trans H_; rw [hy_]; with_reducible exact H2_) | (have H2_ := (Option.bind_some _ _).symm.trans H_; with_reducible exact H2_) | with_reducible exact H_ | (rw [hy_]; exact H_) | exact H_) : p := h H hy
theorem PU {p : Prop} (h : p := by simp only [Act.put, List.setIfInBounds_toArray, List.set_cons_zero, List.set_cons_succ, i64_w, i32_w]; rfl) : p := h
theorem PW {p : Prop} (h : p := by intro w_; go_simp; with_reducible rfl) : p := h
theorem PT {p : Prop} (h : p := by intro w_ s_; (repeat (obtain ⟨_, s_⟩ := s_)); go_simp; with_reducible rfl) : p := h
theorem PG {p : Prop} (h : p := by go_simp; (try simp only [i64_w]); try rfl) : p := h
theorem CW {p q : Prop} (a : q) (h : q → p := by intro z_; repeat (first | exact z_ | (with_reducible refine Kd.C_drewN ?_ _) | (with_reducible refine Kd.C_drew ?_) | (with_reducible refine Kd.C_alloc ?_ _))) : p := h a
theorem BW {p q : Prop} (a : Aside0 q) (h : q → p := by intro z_; (with_reducible repeat (first | refine blk_drewN ?_ _ | refine blk_drew ?_ | refine blk_alloc ?_ _)); exact z_) : p := h a.out
theorem DR {p : Prop} (h : p := by repeat (first | exact Drawn0.refl _ | apply Drawn0.step)) : p := h
theorem RE {p : Prop} (h : p := by first | rfl | (simp [errW_none, errW_some] <;> rfl) | (simp [*, errW_none, errW_some] <;> rfl)) : p := h
theorem GS {p : Prop} (h : p := by first | (go_simp; done) | (go_simp; rfl)) : p := h
end Go.Proofs.YthkdkgbcokpbaacGreatDoorOwn
