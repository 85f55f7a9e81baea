/- Two arrays of three numbers are compared number by number. -/
import Derived.Test.YtcecimigkndakabProg
import Derived.Test.YtcecimigkndakabOwn
import Derived.Test.YtcecimigkndakabWN
import Derived.WalkKit
import Derived.KernelRfl
import Derived.ChangeKeysEq
namespace Go.Proofs.YtcecimigkndakabOwn
open Go.RowKit Go.Proofs.YtcecimigkndakabW.PrintWords Go.Proofs.YtcecimigkndakabW.PrintLast
set_option linter.unusedVariables false
set_option linter.unusedSimpArgs false
set_option maxRecDepth 100000
theorem int_eq (d : Nat) (p q : Int) (w : World) : (Op.equalIn (d + 1) 3 (.int .i64 p) (.int .i64 q)).run Try.prog w = .ok (p == q) w := by
  have hu := Try.underlying3
  simp [Op.equalIn, run_underlying hu]
theorem part_at (l : Array Value) (j : Nat) (v : Int) (h : l[j]? = some (.int .i64 v)) (w : World) : (part 3 l j).run Try.prog w = .ok (.int .i64 v) w := by
  go_simp
theorem arr3_eqd (d : Nat) (w : World) (x y z a b c : Int) : (Op.equalIn (d + 1 + 1) 42 (.agg #[.int .i64 x, .int .i64 y, .int .i64 z]) (.agg #[.int .i64 a, .int .i64 b, .int .i64 c])).run Try.prog w = .ok (x == a && (y == b && z == c)) w := by
  obtain ⟨i, hi⟩ : ∃ i, Try.prog.info? 3 = some i := ⟨_, rfl⟩
  have hc : Try.prog.cellsOf 3 = 1 := by kernel_rfl
  have p0 := part_at #[.int .i64 x, .int .i64 y, .int .i64 z] 0 x rfl
  have p1 := part_at #[.int .i64 x, .int .i64 y, .int .i64 z] 1 y rfl
  have p2 := part_at #[.int .i64 x, .int .i64 y, .int .i64 z] 2 z rfl
  have q0 := part_at #[.int .i64 a, .int .i64 b, .int .i64 c] 0 a rfl
  have q1 := part_at #[.int .i64 a, .int .i64 b, .int .i64 c] 1 b rfl
  have q2 := part_at #[.int .i64 a, .int .i64 b, .int .i64 c] 2 c rfl
  have h := run_equalIn_array (P := Try.prog) w (d + 1) #[.int .i64 x, .int .i64 y, .int .i64 z] #[.int .i64 a, .int .i64 b, .int .i64 c] Try.underlying42 hi
  refine h.trans ?_
  rw [hc]
  show (Op.eqItems (d + 1) 3 1 _ _ [0, 1, 2]).run Try.prog w = _
  cases h0 : (x == a) <;> cases h1 : (y == b) <;> cases h2 : (z == c) <;> simp only [Op.eqItems, Sem.run_bind, Sem.run_ite, Sem.run_pure, Nat.mul_one, p0, p1, p2, q0, q1, q2, int_eq, Result.andThen_ok, h0, h1, h2, Bool.not_true, Bool.not_false, if_true, Bool.false_eq_true, if_false, Bool.true_and, Bool.false_and]
theorem arr3_eq (w : World) (x y z a b c : Int) : (Op.equalIn 10000 42 (.agg #[.int .i64 x, .int .i64 y, .int .i64 z]) (.agg #[.int .i64 a, .int .i64 b, .int .i64 c])).run Try.prog w = .ok (x == a && (y == b && z == c)) w := arr3_eqd 9998 w x y z a b c
/-- An empty row leads to nothing: it is none of the blocks of a row that is told apart from it. -/
theorem N_empty {α β : Type} {d : Kd α} {d2 : Kd β} {e e2 base base2 : Nat} {ok ok' oku : Nat → Prop} {w : World} {u v : Value} {xs : List α} {ys : List β} (h : Kd.N d e w base ok v xs) (hx : xs = []) (hu : Kd.N d2 e2 w base2 oku u ys) (hoku : ∀ k, oku k → some k ≠ v.ownBlock) (hok : ∀ k, ok k → some k ≠ u.ownBlock → ok' k) : Kd.N d e w base ok' v xs := by
  obtain ⟨h0, rows, hl, hR, hf⟩ := h
  subst hx
  refine ⟨fun k hk => hok k (h0 k hk) (fun z => hoku k (hu.1 k z.symm) hk.symm), rows, hl, hR, fun j x c hj _ => ?_⟩
  simp at hj
end Go.Proofs.YtcecimigkndakabOwn
