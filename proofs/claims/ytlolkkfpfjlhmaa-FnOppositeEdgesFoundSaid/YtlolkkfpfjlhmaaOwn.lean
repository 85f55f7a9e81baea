/- Lemmas of this session beside the print's words: a variable in memory read as a row of one element. -/
import Derived.Test.YtlolkkfpfjlhmaaWMore
import Derived.Test.YtlolkkfpfjlhmaaWWords
import Derived.Test.YtlolkkfpfjlhmaaWLast
import Derived.Test.YtlolkkfpfjlhmaaWTab
import Derived.KernelRfl
namespace Go.Proofs.YtlolkkfpfjlhmaaOwn
open Go.RowKit Go.Proofs.YtlolkkfpfjlhmaaW.PrintWords Go.Proofs.YtlolkkfpfjlhmaaW.PrintLast
namespace Kd
theorem C_box {α : Type} (d : Kd α) {w : World} {g : Nat} {t : TypeId} {cs : Array Value} {x : α} (h : w.heap[g]? = some (.cells cs t (0, 0))) (hk : d.K w x cs.toList) :
    d.C w (some ⟨g, 0, none⟩) [x].length [x] := by
  refine ⟨rfl, by simp, fun _ => ⟨_, rfl, fun j p hj => ?_⟩⟩
  have hj0 : j = 0 := by
    have := (List.getElem?_eq_some_iff.1 hj).1
    simpa using this
  subst hj0
  have hp : x = p := by simpa using hj
  subst hp
  refine ⟨cs.toList, d.K_len hk, hk, fun i u hu => ?_⟩
  have e : (Addr.add ⟨g, 0, none⟩ (0 * d.sz + i)) = ⟨g, i, none⟩ := by
    rw [add_at]; simp
  rw [e, blk_cell h i]
  simpa using hu
end Kd
/-! What the printed texts say often, by a short name. -/
theorem BB {p : Prop} (h : p := by repeat (first | (with_reducible first | exact HB.out | apply below_alloc | apply pw_below_drewN | apply below_drew1) | exact HB.out)) : p := h
theorem AHK {p : Prop} (h : p := by repeat (first | (with_reducible first | exact HK.out | apply KeepBut.set_ | apply keep_drewN | apply keep_drew | apply keep_alloc) | exact HK.out)) : p := h
theorem AGE {p q : Prop} (a : Aside0 q) (h : Aside0 q → p := by intro ge_; repeat (first | (with_reducible first | exact HB.out | apply below_alloc | apply pw_below_drewN | apply below_drew1 | refine below_set ?_ ge_.out) | exact HB.out)) : p := h a
theorem AS {p : Prop} (h : p := by first | (with_reducible assumption) | assumption) : p := h
theorem TA {p : Prop} (h : p := by (try simp only [List.map_toArray, List.map_cons, List.map_nil]); first | done | rfl | (simp only [List.length_drop, List.length_take]; rfl)) : p := h
theorem RF {p : Prop} (h : p := by first | rfl | (simp; done) | (simp [*]; done) | (simp [*, wrap64]; done) | (simp only [Value.bool.injEq]; rw [Bool.eq_iff_iff]; simp; done) | (simp; rw [Bool.eq_iff_iff]; simp; done)) : p := h
theorem KR {p q : Prop} (a : Aside0 q) (h : Aside0 q → p := by intro z_; (with_reducible repeat (first | apply Kd.R_alloc | apply Kd.R_drewN | apply Kd.R_drew)); exact z_.out) : p := h a
theorem KS {p q : Prop} (a : Aside0 q) (h : Aside0 q → p := by intro z_; (with_reducible repeat (first | apply Kd.S_alloc | apply Kd.S_drewN | apply Kd.S_drew)); exact z_.out) : p := h a
theorem KN {p q : Prop} (a : Aside0 q) (h : Aside0 q → p := by intro z_; (with_reducible repeat (first | apply Kd.N_alloc | apply Kd.N_drewN | apply Kd.N_drew)); exact z_.out) : p := h a
theorem KF {p q : Prop} (a : Aside0 q) (h : Aside0 q → p := by intro z_; (with_reducible repeat (first | apply Kd.F_alloc | apply Kd.F_drewN | apply Kd.F_drew)); exact z_.out) : p := h a
theorem IP {c : Prop} [Decidable c] {α : Type} {t e x : α} (H : (if c then t else e) = x) (h : c := by first | rfl | assumption) : t = x := (if_pos h).symm.trans H
theorem IN {c : Prop} [Decidable c] {α : Type} {t e x : α} (H : (if c then t else e) = x) (h : ¬ c := by decide) : e = x := (if_neg h).symm.trans H
theorem EA {α β : Type} {o : Option α} {f : α → Option β} {r : β} (H : o.bind f = some r) : ∃ a, Aside0 (o = some a) ∧ f a = some r := by
  obtain ⟨a, h, g⟩ := Option.bind_eq_some_iff.mp H
  exact ⟨a, ⟨h⟩, g⟩
section
variable {P : Program} {ops : Array Oper} {rest : List Oper} {o : Oper} {a : Act} {Q : Exit → Act → World → Prop} {w : World}
theorem GC (f : FuncId) {as : Array Operand} {ts : Array TypeId} (h : wpList P ops Q (o :: rest) a w) (_ho : o.op = .call { callee := .value (.func f), args := as, argTypes := ts } := by with_reducible rfl) : wpList P ops Q (o :: rest) a w := h
theorem GL (N : Option Tmp) {f : FuncId} {fn : Func} {as : Array Operand} {ts : Array TypeId} (hf : P.funcs[f]? = some fn) (args : Array Value) (h : Calls P f args w fun e w' => ∃ v, e = .returned v ∧ wpList P ops Q rest (a.put N v) w')
    (hd : o.dst = N := by rfl) (hg : o.guard = none := by rfl) (hname : (fn.name == "runtime.NumGoroutine") = false := by kernel_rfl) (hb : fn.body.isSome = true := by rfl)
    (hop : o.op = .call { callee := .value (.func f), args := as, argTypes := ts } := by rfl) (hargs : as.map a.eval = args := by (try simp only [List.map_toArray, List.map_cons, List.map_nil]); first | done | rfl | (simp only [List.length_drop, List.length_take]; rfl)) : wpList P ops Q (o :: rest) a w :=
  goesL_ N hd hg hf hname hb args hop hargs h
end
theorem DW {p : Prop} (h : p := by first | exact ⟨rfl, _, World.drewN_drewN _ _ _⟩ | exact ⟨rfl, _, Eq.trans (World.drewN_drewN _ _ _) (congrArg (World.drewN _) (Nat.add_assoc _ _ _))⟩) : p := h
theorem IC {c : Prop} [Decidable c] {α : Type} {t : Option α} {r : α} (H : (if c then t else none) = some r) : c ∧ t = some r := by
  by_cases h : c
  · rw [if_pos h] at H; exact ⟨h, H⟩
  · rw [if_neg h] at H; cases H
theorem ID {c : Prop} [Decidable c] {α : Type} {t : Option α} {r : α} (H : (if c then none else t) = some r) : ¬ c ∧ t = some r := by
  by_cases h : c
  · rw [if_pos h] at H; cases H
  · rw [if_neg h] at H; exact ⟨h, H⟩
theorem IE {b : Bool} {α : Type} {t : Option α} {r : α} (H : (if b = true then none else t) = some r) : b = false ∧ t = some r := by
  cases b
  · exact ⟨rfl, H⟩
  · cases H
theorem HY {p q e : Prop} (H : q) (hy : e) (h : q → e → p := by intro H_ hy_; first | (rw [hy_]; with_reducible exact H_) | (have H2_ := (Option.bind_some _ _).symm.trans H_; rw [hy_]; with_reducible exact H2_) | (have H2_ := (Option.bind_some _ _).symm.trans H_; with_reducible exact H2_) | with_reducible exact H_ | (rw [hy_]; exact H_) | exact H_) : p := h H hy
theorem PU {p : Prop} (h : p := by simp only [Act.put, List.setIfInBounds_toArray, List.set_cons_zero, List.set_cons_succ, i64_w, i32_w]; rfl) : p := h
theorem PW {p : Prop} (h : p := by intro w_; go_simp; with_reducible rfl) : p := h
theorem PT {p : Prop} (h : p := by intro w_ s_; (repeat (obtain ⟨_, s_⟩ := s_)); go_simp; with_reducible rfl) : p := h
theorem PG {p : Prop} (h : p := by go_simp; (try simp only [i64_w]); try rfl) : p := h
theorem CW {p q : Prop} (a : q) (h : q → p := by intro z_; repeat (first | exact z_ | (with_reducible refine Kd.C_drewN ?_ _) | (with_reducible refine Kd.C_drew ?_) | (with_reducible refine Kd.C_alloc ?_ _))) : p := h a
theorem BW {p q : Prop} (a : Aside0 q) (h : q → p := by intro z_; (with_reducible repeat (first | refine blk_drewN ?_ _ | refine blk_drew ?_ | refine blk_alloc ?_ _)); exact z_) : p := h a.out
theorem DR {p : Prop} (h : p := by repeat (first | exact Drawn0.refl _ | apply Drawn0.step)) : p := h
theorem RE {p : Prop} (h : p := by first | rfl | (simp [errW_none, errW_some] <;> rfl) | (simp [*, errW_none, errW_some] <;> rfl)) : p := h
theorem GS {p : Prop} (h : p := by first | (go_simp; done) | (go_simp; rfl)) : p := h
section
variable {P : Program} {ops : Array Oper} {Q : Exit → Act → World → Prop} {md : Region.Mode} {S : World → Prop} {ds : List Nat}
theorem PA {oi : Oper} {v : Value} {fuel : Nat} {l : Array Bool} {a a' : Act} {w : World} {T : Bool × List (List Nat × List Nat)} (i n : Nat) (HT : Aside0 (rtab md ops = T)) (h : wpAnyLast P md ops Q S ds fuel (l.setIfInBounds i true) a' w) (hi : ops[i]? = some oi := by rfl) (hN : oi.dst = some n := by rfl)
    (hc : anyT T l.toList (l.setIfInBounds i true).toList i = true := by kernel_rfl) (hQ : ∀ c a w, Q (.panic c) (a.put oi.dst v) w → Q (.panic c) a w := by exact fun _ _ _ h => h) (hy : Yields P ops oi v a := by exact Or.inl ⟨by rfl, PW⟩)
    (ha : a.put (some n) v = a' := by simp only [Act.put, List.setIfInBounds_toArray, List.set_cons_zero, List.set_cons_succ, i64_w, i32_w]; rfl) : wpAnyLast P md ops Q S ds (fuel + 1) l a w := pure_ (i := i) (N := some n) _ hi hN (any_of HT.out hc) hQ hy ha h
theorem PB {oi : Oper} {v : Value} {fuel : Nat} {l : Array Bool} {a a' : Act} {w : World} {T : Bool × List (List Nat × List Nat)} {B : List Nat} (i n : Nat) (HT : Aside0 (rtab md ops = T)) (HW : Aside0 (waitsOk T.2 B = true)) (hS : S w) (h : wpAnyLast P md ops Q S ds fuel (l.setIfInBounds i true) a' w) (hi : ops[i]? = some oi := by rfl) (hN : oi.dst = some n := by rfl)
    (hc : takeW T B ds l.toList (l.setIfInBounds i true).toList i = true := by kernel_rfl) (hQ : ∀ c a w, Q (.panic c) (a.put oi.dst v) w → Q (.panic c) a w := by exact fun _ _ _ h => h) (hy : YieldsIf P ops S oi v a := by exact Or.inl ⟨by rfl, PT⟩)
    (ha : a.put (some n) v = a' := by simp only [Act.put, List.setIfInBounds_toArray, List.set_cons_zero, List.set_cons_succ, i64_w, i32_w]; rfl) : wpAnyLast P md ops Q S ds (fuel + 1) l a w := take_ (i := i) (N := some n) _ hi hN (take_ofW HT.out HW.out hc) hQ hy hS ha h
theorem PC {oi : Oper} {fuel : Nat} {l : Array Bool} {a : Act} {w : World} {T : Bool × List (List Nat × List Nat)} (i n : Nat) (HT : Aside0 (rtab md ops = T))
    (h : ∀ K : Act → World → Prop, Shut (∀ a' w', S w' → (S w' → wpAnyLast P md ops Q S ds fuel (l.setIfInBounds i true) a' w') → K a' w') → if Region.wanted oi (yielded ops a.tmps) = true then Oper.wp P oi a w K Q else K (a.put (some n) undef) w) (hi : ops[i]? = some oi := by rfl) (hN : oi.dst = some n := by rfl)
    (hc : (readyT T.2 l.toList == [i] && l.toList.set i true == (l.setIfInBounds i true).toList) = true := by kernel_rfl) (hd : i ∉ ds := by decide) : wpAnyLast P md ops Q S ds (fuel + 1) l a w := one_ (i := i) (N := some n) _ hi hN (one_of HT.out hc) hd h
theorem PSt {id n : Nat} {a : Act} {w : World} (hS : S w.drew) (h : S w.drew → wpAnyLast P .any ops Q S ds n (Array.replicate n false) a w.drew) (hm : P.follows .mixedOrders = true := by kernel_rfl) (hn : ops.size = n := by rfl) : (Code.region id ops true).wp P Q a w := start_ (n := n) _ hm hn rfl hS h
end
/-! Names of squeeze3. -/
theorem AM {p : Prop} (h : p) : Aside0 p := ⟨h⟩
theorem OD {p : Prop} [i : Decidable p] (h : decide p = true) : p := of_decide_eq_true h
theorem DT {p : Prop} [i : Decidable p] (h : p) : decide p = true := decide_eq_true h
theorem DF {p : Prop} [i : Decidable p] (h : ¬ p) : decide p = false := decide_eq_false h
theorem ET {p : Prop} (h : p) : p = True := eq_true h
theorem NF {b : Bool} (h : ¬ b = true) : b = false := Bool.eq_false_iff.mpr h
theorem QT {α : Type} [BEq α] [LawfulBEq α] {a b : α} (h : a = b) : (a == b) = true := beq_iff_eq.mpr h
theorem BL (w : World) (a : Addr) {u : Value} (h : w.cell? a = some u) : a.block < w.heap.size := World.block_lt_of_cell? w a h
theorem BZ {w W : World} (h : Below w.heap.size w W) : w.heap.size ≤ W.heap.size := h.size
theorem BC {w : World} {g : Nat} {t : TypeId} {cs : Array Value} (h : w.heap[g]? = some (.cells cs t (0, 0))) (i : Nat) : w.cell? ⟨g, i, none⟩ = cs[i]? := blk_cell h i
theorem BF {w : World} {g : Nat} {t : TypeId} {cs : Array Value} (h : w.heap[g]? = some (.cells cs t (0, 0))) (i : Nat) : w.frozen? ⟨g, i, none⟩ = false := blk_frozen h i
theorem LD {w W : World} {a : Addr} {v : Value} (hb : Below w.heap.size w W) (h : w.cell? a = some v) : W.cell? a = some v := (hb.cell (World.block_lt_of_cell? w a h)).trans h
theorem LC {w W : World} {a : Addr} {v : Value} (h : w.cell? a = some v) (hb : Below w.heap.size w W := by first | exact HB.out | exact pw_below_drewN HB.out _ | exact below_drew1 HB.out | exact below_alloc HB.out _) : W.cell? a = some v := LD hb h
theorem HRf (w : World) : Aside0 (Below w.heap.size w w) := ⟨Below.refl _ _⟩
theorem HS {w W w2 : World} (k : Below W.heap.size W w2) (h : Below w.heap.size w W := by repeat (first | (with_reducible first | exact HB.out | apply below_alloc | apply pw_below_drewN | apply below_drew1) | exact HB.out)) : Aside0 (Below w.heap.size w w2) := ⟨below_step h k⟩
theorem HG {w W w2 : World} {q : Prop} (a : Aside0 q) (k : Below W.heap.size W w2) (h : Aside0 q → Below w.heap.size w W := by intro ge_; repeat (first | (with_reducible first | exact HB.out | apply below_alloc | apply pw_below_drewN | apply below_drew1 | refine below_set ?_ ge_.out) | exact HB.out)) : Aside0 (Below w.heap.size w w2) := ⟨below_step (h a) k⟩
theorem HX {w w1 w2 : World} {g : Nat} {row : Option Nat} (k : KeepBut w1 w2 g row) (h : KeepBut w w1 g row := by repeat (first | (with_reducible first | exact HK.out | apply KeepBut.set_ | apply keep_drewN | apply keep_drew | apply keep_alloc) | exact HK.out)) : Aside0 (KeepBut w w2 g row) := ⟨KeepBut.trans h k (.inl rfl)⟩
theorem KV {p q : Prop} (a : Aside0 q) (h : Aside0 q → p := by intro z_; (with_reducible repeat (first | apply Kd.V_alloc | apply Kd.V_drewN | apply Kd.V_drew)); exact z_.out) : p := h a
theorem CX {p q : Prop} (a : Aside0 q) (h : Aside0 q → p := by intro z_; repeat (first | (with_reducible exact z_.out) | (with_reducible refine Kd.C_drewN ?_ _) | (with_reducible refine Kd.C_drew ?_) | (with_reducible refine Kd.C_alloc ?_ _) | exact z_.out)) : p := h a
section
variable {α : Type} {d : Kd α} {e : Nat} {w w1 : World} {base : Nat} {ok : Nat → Prop} {u v : Value} {xs : List α} {q : Prop}
theorem RB (a : Aside0 q) (hb : Below w.heap.size w w1) (h : Aside0 q → Kd.R d e w base ok v xs := by intro z_; (with_reducible repeat (first | apply Kd.R_alloc | apply Kd.R_drewN | apply Kd.R_drew)); exact z_.out) : Aside0 (Kd.R d e w1 base ok v xs) := ⟨Kd.R_below (h a) hb⟩
theorem SB (a : Aside0 q) (hb : Below w.heap.size w w1) (h : Aside0 q → Kd.S d e w base ok v xs := by intro z_; (with_reducible repeat (first | apply Kd.S_alloc | apply Kd.S_drewN | apply Kd.S_drew)); exact z_.out) : Aside0 (Kd.S d e w1 base ok v xs) := ⟨Kd.S_below (h a) hb⟩
theorem VB (a : Aside0 q) (hb : Below w.heap.size w w1) (h : Aside0 q → Kd.V d e w base ok v xs := by intro z_; (with_reducible repeat (first | apply Kd.V_alloc | apply Kd.V_drewN | apply Kd.V_drew)); exact z_.out) : Aside0 (Kd.V d e w1 base ok v xs) := ⟨Kd.V_below (h a) hb⟩
section
variable {β : Type} {d' : Kd β} {e' : Nat} {ok' : Nat → Prop} {ys : List β}
theorem RO (a : Aside0 q) (ho : Kd.R d' e' w1 w.heap.size ok' u ys) (hb : Below w.heap.size w w1) (h : Aside0 q → Kd.R d e w base ok v xs := by intro z_; (with_reducible repeat (first | apply Kd.R_alloc | apply Kd.R_drewN | apply Kd.R_drew)); exact z_.out) : Aside0 (Kd.R d e w1 base (fun k => ok k ∧ some k ≠ u.ownBlock) v xs) := ⟨Kd.R_elder' (h a) (Kd.R_base ho) hb⟩
theorem SO (a : Aside0 q) (ho : Kd.R d' e' w1 w.heap.size ok' u ys) (hb : Below w.heap.size w w1) (h : Aside0 q → Kd.S d e w base ok v xs := by intro z_; (with_reducible repeat (first | apply Kd.S_alloc | apply Kd.S_drewN | apply Kd.S_drew)); exact z_.out) : Aside0 (Kd.S d e w1 base (fun k => ok k ∧ some k ≠ u.ownBlock) v xs) := ⟨Kd.S_elder' (h a) (Kd.R_base ho) hb⟩
theorem VO (a : Aside0 q) (ho : Kd.R d' e' w1 w.heap.size ok' u ys) (hb : Below w.heap.size w w1) (h : Aside0 q → Kd.V d e w base ok v xs := by intro z_; (with_reducible repeat (first | apply Kd.V_alloc | apply Kd.V_drewN | apply Kd.V_drew)); exact z_.out) : Aside0 (Kd.V d e w1 base (fun k => ok k ∧ some k ≠ u.ownBlock) v xs) := ⟨Kd.V_elder' (h a) (Kd.R_base ho) hb⟩
end
end
section
variable {P : Program} {ops : Array Oper} {rest : List Oper} {o : Oper} {a : Act} {Q : Exit → Act → World → Prop} {w : World}
theorem GM (N : Option Tmp) {f : FuncId} {fn : Func} {as : Array Operand} {ts : Array TypeId} {args : Array Value} {R : Ending → World → Prop} (hf : P.funcs[f]? = some fn) (hc : Calls P f args w R) (h : ∀ e w', R e w' → ∃ v, e = .returned v ∧ wpList P ops Q rest (a.put N v) w')
    (hd : o.dst = N := by rfl) (hg : o.guard = none := by rfl) (hname : (fn.name == "runtime.NumGoroutine") = false := by kernel_rfl) (hb : fn.body.isSome = true := by rfl)
    (hop : o.op = .call { callee := .value (.func f), args := as, argTypes := ts } := by rfl) (hargs : as.map a.eval = args := by (try simp only [List.map_toArray, List.map_cons, List.map_nil]); first | done | rfl | (simp only [List.length_drop, List.length_take]; rfl)) : wpList P ops Q (o :: rest) a w :=
  goesL_ N hd hg hf hname hb args hop hargs (hc.mono h)
end
theorem LZ {α : Type} {x y : Option α} (h : x = none := by rfl) : LeO x y := fun _ hr => by rw [h] at hr; cases hr
theorem MO {p : Prop} (h : p := by
  repeat' first
    | with_reducible first | apply ih0 | apply ih1 | apply ih2 | apply ih3 | apply ih4 | apply ih5 | apply ih6 | apply ih7 | apply m0 | apply m1 | apply m2 | apply m3 | apply m4 | apply m5 | apply m6 | apply m7 | apply m8 | apply m9 | apply m10 | apply m11 | apply m12 | apply m13 | exact LeO.refl _ | exact LeO.none _ | refine LeO.ite ?_ ?_ | refine LeO.bind ?_ (fun _ => ?_)
    | exact LeO.none _ | refine LeO.ite ?_ ?_ | refine LeO.bind ?_ (fun _ => ?_)) : p := h
end Go.Proofs.YtlolkkfpfjlhmaaOwn
