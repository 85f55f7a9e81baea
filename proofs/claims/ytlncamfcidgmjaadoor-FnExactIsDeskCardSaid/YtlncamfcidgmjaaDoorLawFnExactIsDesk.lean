-- Written by a program of this session (wip/tools/pp.sh) out of the translation; Lean checks it.
import Derived.Test.YtlncamfcidgmjaaDoorCards
import Derived.Test.YtlncamfcidgmjaaDoorTie
import Derived.Test.YtlncamfcidgmjaaDoorPFnExactIsDeskx
import Derived.Deep.Strs
import Derived.Test.YtlncamfcidgmjaaDoorPureFnExactIsDesk
import Derived.Lay
import Derived.SevenTiedAt
import Derived.WalkKit
import Derived.ProofKit
import Derived.OpenShut
import Derived.ShutString
import Derived.ChangeOld
import Derived.Below
import Derived.SizedLaws
namespace Go.Proofs.YtlncamfcidgmjaaDoor.fnExactIsDesk
open Go.ChangeShapes Go.WideShapes Go.ChangeAt Go.RowKit
open Go.ChangeMaps (open_string shut_string)
open Go.Proofs.YtlncamfcidgmjaaDoorW.PrintWords
set_option linter.unusedVariables false
theorem own : ownKnob Tryd.prog.godebug = none := by kernel_rfl
theorem laidOut : laidOutB Tryd.prog = true := by kernel_rfl
def IsRow (k : IntKind) (w : World) (a : Option Addr) (len cap : Nat) (zs : List Int) : Prop :=
  (a = none ∧ len = 0 ∧ cap = 0 ∧ zs = []) ∨
  ∃ x, a = some x ∧ len ≤ cap ∧ cap ≤ maxLen ∧ zs.length = cap ∧ (∀ i, i < zs.length → w.cell? (x.add i) = some (.int k (zs.getD i 0))) ∧ ∀ n ∈ zs, (Lit.int k n).wf = true
theorem three {cs : Array Value} (h : cs.size = 3) : ∃ u0 u1 u2, cs = #[u0, u1, u2] := by
  obtain ⟨l⟩ := cs
  match l, h with
  | [u0, u1, u2], _ => exact ⟨u0, u1, u2, rfl⟩
set_option maxHeartbeats 4000000 in
set_option maxRecDepth 100000 in
theorem lifted (os : Os) (started : os.Started) (H : Type) (enc : TypeId × Value → H) :
    ReturnsInHanded {} Tryd.checked os 3 .any (fun w args => (Rows.fnExactIsDeskSpec.pre enc Tryd.prog Tryd.f3 [] false w args ∧ laidMetH Tryd.prog Rows.fnExactIsDeskRow.laid w) ∧ sizedMet enc Tryd.prog Tryd.f3 (OpenSpec.ofChange Rows.fnExactIsDeskSpec) false w args) (Rows.fnExactIsDeskSpec.post enc Tryd.prog Tryd.f3 false true false false) := by
  refine returnsInHanded_of_change_and (C := Tryd.checked) (X := fun w _ => laidMetH Tryd.prog Rows.fnExactIsDeskRow.laid w) (fun _ _ _ hh h => h.of_heap hh) own started (by kernel_rfl) Tryd.func3
    (ChangeSpec.witness_shaped (enc := enc) (C := Tryd.checked) (os := os) (X := fun w _ => laidMetH Tryd.prog Rows.fnExactIsDeskRow.laid w) false (World.laidAll Tryd.prog os Rows.fnExactIsDeskRow.laid) #[.agg #[.int .i64 0, .slice none 0 0, .string ByteArray.empty]] 8 (World.laidAll_os _ _ _)
      (World.shaped_of_ZipB (by kernel_rfl) (by kernel_rfl)) (by kernel_rfl) (by kernel_rfl) (by kernel_rfl)
      (by rw [MakeChecks.laidMetH_plain _ _ _ (by kernel_rfl)]; exact laidMet_laidAll _ (by kernel_rfl) (by kernel_rfl))) ?_
  intro W base args ds gs before hval0 hW hcnd hsz0 hL _
  have hval : ∀ (j : Nat) t v, Tryd.f3.params[j]? = some t → args[j]? = some v → Value.okWide Tryd.prog W .any base t v := hval0
  have hW' := hW
  obtain ⟨p, q, hA0, hV, rfl, hfz, hnd⟩ := hW
  have hA : DataW.TrodAll enc Tryd.prog W 0 (fun _ => true) true Tryd.f3.params.toList args.toList ds p := hA0
  rw [Tryd.params3] at hA hval
  obtain ⟨v0, vs0, d0, ds0, p0, q0, hargs, rfl, rfl, h0, r0⟩ := trodAll_cons hA
  obtain ⟨rfl, rfl, rfl⟩ := trodAll_nil r0
  obtain rfl : args = #[v0] := by cases args; simp_all
  obtain ⟨rfl, rfl⟩ := trodVars_none hV
  obtain ⟨cs, hv, hcs⟩ := okWide_struct Tryd.underlying24 (hval 0 24 v0 rfl rfl)
  subst hv
  have k0 := h0
  have lt0 : ∀ x ∈ p0, x.block < W.heap.size := by obtain ⟨m, hm⟩ := k0; exact DataW.trod_lt m _ _ _ hm
  obtain ⟨fuel, hf⟩ := h0
  have h3 : Tryd.prog.cellsOf 24 = 3 := by kernel_rfl
  rw [h3] at hcs
  obtain ⟨u0, u1, u2, hcs3⟩ := three hcs
  subst hcs3
  obtain ⟨x0, x1, x2, n, _, _, e0, e1, e2⟩ := Go.Deep.trod_struct3 Tryd.underlying24 hf
  have c3 : Tryd.prog.cellsOf 3 = 1 := by kernel_rfl
  have c22 : Tryd.prog.cellsOf 22 = 1 := by kernel_rfl
  have c9 : Tryd.prog.cellsOf 9 = 1 := by kernel_rfl
  have e0' : DataW.trod enc Tryd.prog W 0 (fun _ => true) true n 3 (([u0, u1, u2].drop 0).take (Tryd.prog.cellsOf 3)) = some x0 := e0
  have e1' : DataW.trod enc Tryd.prog W 0 (fun _ => true) true n 22 (([u0, u1, u2].drop 1).take (Tryd.prog.cellsOf 22)) = some x1 := e1
  have e2' : DataW.trod enc Tryd.prog W 0 (fun _ => true) true n 9 (([u0, u1, u2].drop 2).take (Tryd.prog.cellsOf 9)) = some x2 := e2
  rw [c3] at e0'
  rw [c22] at e1'
  rw [c9] at e2'
  obtain ⟨z, g0, _, _⟩ := DataW.trod_int Tryd.underlying3 e0'
  obtain ⟨s, g2, _, hs⟩ := DataW.trod_string Tryd.underlying9 e2'
  have g0' : u0 = .int .i64 z := by simpa using g0
  have g2' : u2 = .string s := by simpa using g2
  subst g0' g2'
  obtain ⟨a1, len1, cap1, z1, g1, w1⟩ : ∃ a1 len1 cap1 z1, u1 = .slice a1 len1 cap1 ∧ IsRow .i64 W a1 len1 cap1 z1 := by
    rcases open_ints Tryd.underlying22 Tryd.underlying3 (by kernel_rfl) e1' with ⟨hcs, _⟩ | ⟨x, l, c, zs, hcs, _, hl, hm, hz, _, hcell, hwz⟩
    · have hu : u1 = .slice none 0 0 := by simpa using hcs
      exact ⟨none, 0, 0, [], hu, .inl ⟨rfl, rfl, rfl, rfl⟩⟩
    · have hu : u1 = .slice (some x) l c := by simpa using hcs
      exact ⟨some x, l, c, zs, hu, .inr ⟨_, rfl, hl, hm, by simpa using hz, hcell, hwz⟩⟩
  subst g1
  obtain ⟨l1, rfl, hr1, hm1, hw1, hc1⟩ := ReadsInt.ofRowC w1
  obtain ⟨k, hk⟩ := Pure.isDesk z l1 s hm1 hs
  clear hA0 hval0 hsz0
  refine (PFnExactIsDesk.laws_FnExactIsDesk.calls k z a1 cap1 l1 s true W (Kd.C_of_reads (d := (0 : Int)) (h1 := fun _ => rfl) hr1) hc1 hk).mono fun e W' ⟨he, bel⟩ => ?_
  subst he
  exact ⟨_, rfl, _, _, _, [], _, [], hW', trodAll_mk1 (shut_bool Tryd.underlying4 _), (trodAll_cons_mk (Below.trod laidOut (by kernel_rfl) (of_decide_eq_true (by kernel_rfl)) k0 bel lt0) trodAll_mk0), rfl, bel.frame _, fun h => by cases h⟩
theorem both {a b : Bool} (ha : a = true) (hb : b = true) : (a && b) = true := by rw [ha, hb]; rfl
set_option maxRecDepth 100000 in
set_option maxHeartbeats 40000000 in
theorem closed : joinedFacts Tryd.pinned.checked.prog 3 Tryd.f3 Rows.fnExactIsDeskSpec Rows.fnExactIsDeskRow = true := by
  unfold joinedFacts
  repeat' (with_reducible refine both ?_ ?_)
  all_goals decide +kernel
theorem over : Rows.fnExactIsDeskRow.holds Tryd.pinned (OpenSpec.ofChange Rows.fnExactIsDeskSpec) :=
  OpenClaim.holds_of_wide 3 Tryd.f3 rfl rfl rfl rfl rfl rfl rfl ⟨rfl, rfl, rfl, rfl, rfl⟩ rfl rfl rfl rfl rfl (by kernel_rfl) Tryd.func3 closed
    (of_decide_eq_true (by kernel_rfl)) (by unfold Func.isWrapper; first | (rw [if_pos (by decide +kernel)]; kernel_rfl) | (rw [if_neg (by decide +kernel)]; exact ⟨rfl, rfl⟩))
    (fun os started H enc _ => lifted os started H enc)
theorem said : Rows.FnExactIsDeskSaid := over
theorem plain (f : FuncId) (fn : Func) (hf : Tryd.pinned.checked.prog.funcNamed Tryd.f3.name = some f) (hfn : Tryd.pinned.checked.prog.funcs[f]? = some fn) :
    false = Tryd.pinned.checked.prog.looks [] ∧ ∀ (j : Nat) t, fn.params[j]? = some t → Tryd.pinned.checked.prog.wantsStandIn t = false := by
  obtain rfl : f = 3 := Option.some.inj ((show Tryd.prog.funcNamed Tryd.f3.name = some 3 by kernel_rfl).symm.trans hf) |>.symm
  obtain rfl : fn = Tryd.f3 := (Option.some.inj (Tryd.func3.symm.trans hfn)).symm
  refine ⟨by kernel_rfl, fun j t ht => ?_⟩
  rw [Tryd.params3] at ht
  have hm : t ∈ [24] := by simpa using Array.mem_of_getElem? ht
  have hall : ([24].all fun u => !Tryd.prog.wantsStandIn u) = true := by kernel_rfl
  exact (show Tryd.prog.wantsStandIn t = false by simpa using List.all_eq_true.1 hall t hm)
theorem card_wf : Rows.fnExactIsDeskRow.wfByText (OpenSpec.ofChange Rows.fnExactIsDeskSpec) = true := by kernel_rfl
theorem card_main : Tryd.pinned.checked.prog.mainIs = some (Rows.fnExactIsDeskCard.stood.harness.1, Rows.fnExactIsDeskCard.stood.harness.2.toList) := by kernel_rfl
theorem card_goes : false = Rows.fnExactIsDeskRow.goesBy Tryd.pinned.checked.prog := by kernel_rfl
theorem proved : Rows.FnExactIsDeskCardSaid :=
  Claim7.holds_tied_plain_at .later [] _ _ _ _ said (fun _ h => by cases h) card_wf (fun _ h => by cases h) fnExactIsDesk_row_tie rfl ⟨rfl, rfl⟩ card_main rfl plain card_goes
#print axioms proved
end Go.Proofs.YtlncamfcidgmjaaDoor.fnExactIsDesk
namespace Go.Proofs.YtlncamfcidgmjaaDoor
/-- The row, under a short name, for the claim. -/
theorem fnExactIsDesk_holds : Rows.FnExactIsDeskCardSaid := fnExactIsDesk.proved
end Go.Proofs.YtlncamfcidgmjaaDoor
