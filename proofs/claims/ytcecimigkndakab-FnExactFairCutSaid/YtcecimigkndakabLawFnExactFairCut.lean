-- Written by a program of this session (wip/tools/pp.sh) out of the translation; Lean checks it.
import Derived.Test.YtcecimigkndakabRows
import Derived.Test.YtcecimigkndakabPFnExactFairCutx21
import Derived.Deep.Matrix
import Derived.Test.YtcecimigkndakabPureFnExactFairCut
import Derived.WalkKit
import Derived.ProofKit
import Derived.OpenShut
import Derived.ShutString
import Derived.ChangeOld
import Derived.Below
import Derived.SizedLaws
import Derived.Test.YtcecimigkndakabWSized
namespace Go.Proofs.Ytcecimigkndakab.fnExactFairCut
open Go.ChangeShapes Go.WideShapes Go.ChangeAt Go.RowKit
open Go.ChangeMaps (open_string shut_string)
open Go.Proofs.YtcecimigkndakabW.PrintWords
set_option linter.unusedVariables false
theorem own : ownKnob Try.prog.godebug = none := by kernel_rfl
theorem laidOut : laidOutB Try.prog = true := by kernel_rfl
/-- A slice of slices that comes in reads as a list of lists. -/
theorem rows_C {H : Type} {enc : TypeId × Value → H} {W : World} {a1 : Option Addr} {len1 cap1 fuel : Nat} {x : DataW H × List MemPlace} (hf : DataW.trod enc Try.prog W 0 (fun _ => true) true fuel 22 [.slice a1 len1 cap1] = some x) :
    ∃ xs : List (List Int), Kd.C (Kd.slice 3 (Kd.int .i64)) W a1 xs.length xs ∧ len1 = xs.length ∧ xs.length ≤ cap1 ∧ xs.length ≤ 9223372036854775807 ∧ ∀ y ∈ xs, y.length ≤ 9223372036854775807 := by
  rcases Go.Deep.open_int_rows Try.underlying22 Try.underlying24 Try.underlying3 (by kernel_rfl) (by kernel_rfl) hf with ⟨hcs, _⟩ | ⟨a, len, cap, A, L, C, Z, hcs, _, hl, hm, _, hr⟩
  · simp at hcs
    obtain ⟨rfl, rfl, rfl⟩ := hcs
    exact ⟨[], ⟨rfl, Nat.zero_le _, fun h => absurd h (by decide)⟩, rfl, Nat.le_refl _, Nat.zero_le _, fun y hy => by cases hy⟩
  · simp at hcs
    obtain ⟨rfl, rfl, rfl⟩ := hcs
    have hml : maxLen = 9223372036854775807 := rfl
    have hlen : ((List.range len1).map fun r => (Z r).take (L r)).length = len1 := by rw [List.length_map, List.length_range]
    refine ⟨(List.range len1).map fun r => (Z r).take (L r), ⟨rfl, by rw [hlen]; omega, fun _ => ⟨a, rfl, fun j p hj => ?_⟩⟩, hlen.symm, by rw [hlen]; exact hl, by rw [hlen]; omega, fun y hy => ?_⟩
    · have hjl : j < len1 := by
        have := (List.getElem?_eq_some_iff.1 hj).1
        rw [hlen] at this; exact this
      rw [List.getElem?_map, List.getElem?_range hjl] at hj
      have hp : (Z j).take (L j) = p := by simpa using hj
      subst hp
      obtain ⟨h1, h2, h3, h4, h5, h6, h7⟩ := hr j (by omega)
      have htl : ((Z j).take (L j)).length = L j := by rw [List.length_take]; omega
      refine ⟨[.slice (A j) (L j) (C j)], rfl, ⟨A j, C j, by rw [htl], by rw [htl]; exact h2, ?_⟩, fun i u hu => ?_⟩
      · refine ⟨rfl, by rw [htl]; omega, fun hpos => ?_⟩
        rw [htl] at hpos
        cases hA : A j with
        | none => have := h6 hA; omega
        | some a' =>
          obtain ⟨_, hc⟩ := h7 a' hA
          refine ⟨a', rfl, fun i p hp => ⟨[.int .i64 p], rfl, rfl, fun q u hu => ?_⟩⟩
          have hi : i < L j := by
            have := (List.getElem?_eq_some_iff.1 hp).1
            rw [htl] at this; exact this
          have hq : q = 0 := by
            have := (List.getElem?_eq_some_iff.1 hu).1
            simpa using this
          subst hq
          have hu' : Value.int .i64 p = u := by simpa using hu
          subst hu'
          rw [List.getElem?_take_of_lt hi, List.getElem?_eq_getElem (by omega)] at hp
          have hv := hc i (by omega)
          rw [List.getD_eq_getElem?_getD, List.getElem?_eq_getElem (by omega)] at hv
          have hpe : (Z j)[i]'(by omega) = p := by simpa using hp
          have e : i * (Kd.int IntKind.i64).sz + 0 = i := by show i * 1 + 0 = i; omega
          rw [e, hv]
          simp [hpe]
      · have hi : i = 0 := by
          have := (List.getElem?_eq_some_iff.1 hu).1
          simpa using this
        subst hi
        have hu' : Value.slice (A j) (L j) (C j) = u := by simpa using hu
        subst hu'
        have e : j * (Kd.slice 3 (Kd.int IntKind.i64)).sz + 0 = j := by show j * 1 + 0 = j; omega
        rw [e]; exact h1
    · obtain ⟨r, hrr, rfl⟩ := List.mem_map.1 hy
      have hrl := List.mem_range.1 hrr
      obtain ⟨h1, h2, h3, h4, h5, h6, h7⟩ := hr r (by omega)
      rw [List.length_take]; omega
set_option maxRecDepth 100000 in
theorem lifted (os : Os) (started : os.Started) (H : Type) (enc : TypeId × Value → H) :
    ReturnsInHanded {} Try.checked os 3 .any (Rows.fnExactFairCutSpec.pre6 enc Try.prog Try.f3 Rows.fnExactFairCutRow.domain false) (Rows.fnExactFairCutSpec.post enc Try.prog Try.f3 false true false false) := by
  refine returnsInHanded_of_change_sized (C := Try.checked) own started (by kernel_rfl) Try.func3
    (ChangeSpec.witness6 (enc := enc) (C := Try.checked) false ⟨#[], #[.int .i64 0, .slice none 0 0], []⟩ 8 (by kernel_rfl) (by kernel_rfl) (by kernel_rfl) (by kernel_rfl)) ?_
  intro W base args ds gs before hval0 hW hcnd hsz0 _
  have hsz : (DataW.weightsEach Try.prog (Try.f3.params.toList ++ Rows.fnExactFairCutSpec.plain.varTypes Try.prog) (ds ++ gs)).all (· ≤ reachBytes) = true := hsz0
  have hval : ∀ (j : Nat) t v, Try.f3.params[j]? = some t → args[j]? = some v → Value.okWide Try.prog W .any base t v := hval0
  have hW' := hW
  obtain ⟨p, q, hA0, hV, rfl, hfz, hnd⟩ := hW
  have hA : DataW.TrodAll enc Try.prog W 0 (fun _ => true) true Try.f3.params.toList args.toList ds p := hA0
  rw [Try.params3] at hA hval hsz
  obtain ⟨v0, vs0, d0, ds0, p0, q0, hargs, rfl, rfl, h0, r0⟩ := trodAll_cons hA
  obtain ⟨v1, vs1, d1, ds1, p1, q1, rfl, rfl, rfl, h1, r1⟩ := trodAll_cons r0
  obtain ⟨rfl, rfl, rfl⟩ := trodAll_nil r1
  obtain rfl : args = #[v0, v1] := by cases args; simp_all
  obtain ⟨rfl, rfl⟩ := trodVars_none hV
  obtain ⟨a0, rfl, rfl, rfl, w0⟩ := open_int Try.underlying3 (hval 0 3 v0 rfl rfl) h0
  obtain ⟨a1, len1, cap1, rfl⟩ := okWide_slice Try.underlying22 (hval 1 22 v1 rfl rfl)
  have k1 := h1
  have lt1 : ∀ x ∈ p1, x.block < W.heap.size := by obtain ⟨m, hm⟩ := k1; exact DataW.trod_lt m _ _ _ hm
  obtain ⟨l1, hC1, rfl, hc1, hm1, hr1⟩ : ∃ xs : List (List Int), Kd.C (Kd.slice 3 (Kd.int .i64)) W a1 xs.length xs ∧ len1 = xs.length ∧ xs.length ≤ cap1 ∧ xs.length ≤ 9223372036854775807 ∧ ∀ y ∈ xs, y.length ≤ 9223372036854775807 := by
    obtain ⟨fuel, hf⟩ := h1
    exact rows_C hf
  obtain ⟨kk, hk⟩ := Pure.fairCut a0 l1 hm1 hr1
  clear hA0 hval0 hsz0 hsz
  refine (PFnExactFairCut.laws_FnExactFairCut.calls kk a0 a1 cap1 l1 true W hC1 hc1 hk).mono fun e W' ⟨he, bel⟩ => ?_
  subst he
  exact ⟨_, rfl, _, _, _, [], _, [], hW', trodAll_mk1 (shut_bool Try.underlying4 _), (trodAll_cons_mk (shut_int Try.underlying3 w0) (trodAll_cons_mk (Below.trod laidOut (by kernel_rfl) (of_decide_eq_true (by kernel_rfl)) k1 bel lt1) trodAll_mk0)), rfl, bel.frame _, fun h => by cases h⟩
theorem over : Rows.fnExactFairCutRow.holds Try.pinned (OpenSpec.ofChange Rows.fnExactFairCutSpec) :=
  OpenClaim.holds_of_wide 3 Try.f3 rfl rfl rfl rfl rfl rfl rfl ⟨rfl, rfl, rfl, rfl, rfl⟩ rfl rfl rfl rfl rfl (by kernel_rfl) Try.func3 (by kernel_rfl)
    (of_decide_eq_true (by kernel_rfl)) (by unfold Func.isWrapper; first | (rw [if_pos (by decide +kernel)]; kernel_rfl) | (rw [if_neg (by decide +kernel)]; exact ⟨rfl, rfl⟩))
    (fun os started H enc _ => lifted os started H enc)
theorem proved : Rows.FnExactFairCutSaid := over
#print axioms proved
end Go.Proofs.Ytcecimigkndakab.fnExactFairCut
namespace Go.Proofs.Ytcecimigkndakab
theorem fnExactFairCut_holds : Rows.FnExactFairCutSaid := fnExactFairCut.proved
end Go.Proofs.Ytcecimigkndakab
