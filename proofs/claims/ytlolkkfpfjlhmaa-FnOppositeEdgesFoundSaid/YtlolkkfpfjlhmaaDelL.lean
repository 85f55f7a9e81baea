/- slices.IndexFunc and slices.DeleteFunc over a row of slices of numbers that is the call's own: walked once, for every closure that leaves alone what was there. -/
import Derived.Test.YtlolkkfpfjlhmaaProg
import Derived.Test.YtlolkkfpfjlhmaaOwn
import Derived.Shelf.Abstract
import Derived.Lib.SliceRun
import Derived.Lib.Walk
import Derived.WalkKit
import Derived.KernelRfl
import Derived.Deep.LoopGhost
import Derived.Deep.Draws
namespace Go.Proofs.YtlolkkfpfjlhmaaOwn
open Go.RowKit Go.Shelf Go.Proofs.YtlolkkfpfjlhmaaW.PrintWords Go.Proofs.YtlolkkfpfjlhmaaW.PrintLast
set_option linter.unusedVariables false
set_option linter.unusedSimpArgs false
set_option linter.unusedSectionVars false
/-- The first index from i on, of d, at which p holds; -1 if there is none. -/
def fidx (p : Nat → Bool) : Nat → Nat → Int
  | 0, _ => -1
  | d + 1, i => if p i = true then (i : Int) else fidx p d (i + 1)
theorem fidx_miss (p : Nat → Bool) : ∀ d i, (∀ t, i ≤ t → t < i + d → p t = false) → fidx p d i = -1
  | 0, _, _ => rfl
  | d + 1, i, h => by rw [fidx, h i (Nat.le_refl _) (by omega), if_neg (by decide)]; exact fidx_miss p d (i + 1) (fun t h1 h2 => h t (by omega) (by omega))
theorem fidx_hit (p : Nat → Bool) : ∀ d i k, k < i + d → i ≤ k → p k = true → (∀ t, i ≤ t → t < k → p t = false) → fidx p d i = k
  | 0, i, k, h1, h2, _, _ => by omega
  | d + 1, i, k, h1, h2, h3, h4 => by
    rw [fidx]
    rcases Nat.lt_or_ge i k with h | h
    · rw [h4 i (Nat.le_refl _) h, if_neg (by decide)]
      exact fidx_hit p d (i + 1) k (by omega) (by omega) h3 (fun t h5 h6 => h4 t (by omega) h6)
    · have : i = k := by omega
      subst this
      rw [if_pos h3]
theorem fidx_cases (p : Nat → Bool) (n : Nat) : (∀ t, t < n → p t = false) ∨ ∃ k, k < n ∧ p k = true ∧ ∀ t, t < k → p t = false := by
  induction n with
  | zero => exact .inl (fun t h => by omega)
  | succ n ih =>
    rcases ih with h | ⟨k, h1, h2, h3⟩
    · cases hp : p n with
      | false => exact .inl (fun t ht => by
          rcases Nat.lt_or_ge t n with h4 | h4
          · exact h t h4
          · have : t = n := by omega
            rw [this, hp])
      | true => exact .inr ⟨n, by omega, hp, h⟩
    · exact .inr ⟨k, by omega, h2, h3⟩
/-- The indexes below j that stay. -/
def kept (p : Nat → Bool) (j : Nat) : List Nat := (List.range j).filter fun t => !p t
theorem kept_succ (p : Nat → Bool) (j : Nat) : kept p (j + 1) = if p j = true then kept p j else kept p j ++ [j] := by
  unfold kept
  rw [List.range_succ, List.filter_append]
  cases h : p j <;> simp [List.filter_cons, h]
theorem kept_len (p : Nat → Bool) (j : Nat) : (kept p j).length ≤ j := by
  have := List.length_filter_le (fun t => !p t) (List.range j)
  unfold kept
  simpa using this
theorem kept_all (p : Nat → Bool) (n : Nat) (h : ∀ t, t < n → p t = false) : kept p n = List.range n := by
  unfold kept
  exact List.filter_eq_self.2 (fun t ht => by rw [h t (by simpa using ht)]; rfl)
theorem kept_first (p : Nat → Bool) (k : Nat) (h : ∀ t, t < k → p t = false) (hk : p k = true) : kept p (k + 1) = List.range k := by
  rw [kept_succ, if_pos hk, kept_all p k h]
structure Hide (p : Prop) : Prop where
  out : p
/-- What the row holds when j of its n cells have been looked at, and i of them stay. -/
structure KInv (f : Nat → Value) (p : Nat → Bool) (n cap : Nat) (cur : Array Value) (j i : Nat) : Prop where
  size : cur.size = cap
  len : i = (kept p j).length
  lt : i < j
  le : j ≤ n
  low : ∀ (t : Nat) (x : Nat), (kept p j)[t]? = some x → cur[t]? = some (f x)
  high : ∀ (t : Nat), j ≤ t → t < n → cur[t]? = some (f t)
theorem KInv.skip {f : Nat → Value} {p : Nat → Bool} {n cap : Nat} {cur : Array Value} {j i : Nat} (h : KInv f p n cap cur j i) (hj : j < n) (hp : p j = true) : KInv f p n cap cur (j + 1) i := by
  have e : kept p (j + 1) = kept p j := by rw [kept_succ, if_pos hp]
  exact ⟨h.size, by rw [e]; exact h.len, by have := h.lt; omega, by omega, by rw [e]; exact h.low, fun t h1 h2 => h.high t (by omega) h2⟩
theorem KInv.keep {f : Nat → Value} {p : Nat → Bool} {n cap : Nat} {cur : Array Value} {j i : Nat} (h : KInv f p n cap cur j i) (hj : j < n) (hn : n ≤ cap) (hp : p j = false) : KInv f p n cap (cur.setIfInBounds i (f j)) (j + 1) (i + 1) := by
  have e : kept p (j + 1) = kept p j ++ [j] := by rw [kept_succ, hp, if_neg (by decide)]
  have hlt := h.lt
  have hs := h.size
  refine ⟨by simpa using hs, by rw [e, List.length_append, ← h.len]; rfl, by omega, by omega, fun t x ht => ?_, fun t h1 h2 => ?_⟩
  · rw [e] at ht
    rcases Nat.lt_or_ge t (kept p j).length with h3 | h3
    · rw [List.getElem?_append_left h3] at ht
      rw [Array.getElem?_setIfInBounds_ne (by rw [← h.len] at h3; omega)]
      exact h.low t x ht
    · rw [List.getElem?_append_right h3] at ht
      have h4 : t - (kept p j).length = 0 := by
        have := (List.getElem?_eq_some_iff.1 ht).1
        simpa using this
      have h5 : t = i := by rw [h.len]; omega
      subst h5
      rw [h4] at ht
      have h6 : j = x := by simpa using ht
      subst h6
      rw [Array.getElem?_setIfInBounds_self_of_lt (by omega)]
  · rw [Array.getElem?_setIfInBounds_ne (by omega)]
    exact h.high t (by omega) h2
section
variable (g : Nat) (lb : Array Value) (eg : ∀ args w, (callFunc g args).run Try.prog w = .ok (.enter g args) w) (fa : Nat → Option Addr) (fl fc : Nat → Nat) (p : Nat → Bool) (blk n cap : Nat) (T : TypeId)
include eg
set_option maxHeartbeats 2000000 in
theorem indexFuncL (cur : Array Value) (w : World) (hblk : w.heap[blk]? = some (.cells cur T (0, 0))) (hbig : n ≤ 9223372036854775807)
    (hv : ∀ t, t < n → cur[t]? = some (.slice (fa t) (fl t) (fc t)))
    (hcl : ∀ j, j < n → ∀ W : World, Below w.heap.size w W → Calls Try.prog g (#[.slice (fa j) (fl j) (fc j)] ++ lb) W fun e W' => e = .returned (.bool (p j)) ∧ Below W.heap.size W W') :
    Calls Try.prog 72 #[.slice (some ⟨blk, 0, none⟩) n cap, .func (.func g) #[] lb] w fun e w' => e = .returned (.int .i64 (fidx p n 0)) ∧ Below w.heap.size w w' := by
  have HB := Hide.mk hblk
  have HV := Hide.mk hv
  have HC := Hide.mk hcl
  clear hblk hv hcl
  go_enter Try.func72, Try.ntmps72
  go_wp2
  go_loopg [5, 8] n (fun gg _ s8 wr => ∃ kk : Nat, kk ≤ n ∧ n - kk ≤ gg ∧ s8 = .int .i64 kk ∧ Hide (Below w.heap.size w wr) ∧ Hide (∀ t, t < kk → p t = false))
  case atStart => exact ⟨0, Nat.zero_le _, by omega, rfl, ⟨Below.refl _ _⟩, ⟨fun j hj => absurd hj (Nat.not_lt_zero _)⟩⟩
  case round =>
    obtain ⟨kk, hkk, hg, rfl, HW, A⟩ := hrel
    by_cases hlt : kk < n
    · have hltz : (kk : Int) < (n : Int) := by omega
      have hcell : wr.cell? ⟨blk, kk, none⟩ = some (.slice (fa kk) (fl kk) (fc kk)) := by
        rw [(HW.out.cell (p := ⟨blk, kk, none⟩) (blk_lt HB.out)), blk_cell HB.out kk]
        exact HV.out kk hlt
      have HCC := Hide.mk (HC.out kk hlt)
      cases hq : p kk with
      | true =>
        have PQ := Hide.mk hq
        clear hq
        go_wp2_with (go_at_fn g; refine (HCC.out wr HW.out).mono ?_; rintro e w2 ⟨rfl, hb⟩; rw [PQ.out]; have HW2 := Hide.mk (HW.out.trans (hb.mono HW.out.size)); clear hb)
        go_ret
        refine ⟨?_, HW2.out⟩
        rw [fidx_hit p n 0 kk (by omega) (by omega) PQ.out (fun t _ ht => A.out t ht)]
        rfl
      | false =>
        have PQ := Hide.mk hq
        clear hq
        go_wp2_with (go_at_fn g; refine (HCC.out wr HW.out).mono ?_; rintro e w2 ⟨rfl, hb⟩; rw [PQ.out]; have HW2 := Hide.mk (HW.out.trans (hb.mono HW.out.size)); clear hb)
        go_roundg (n - (kk + 1))
        case measure => omega
        case rel => exact ⟨kk + 1, by omega, by omega, by go_num, HW2, ⟨fun j hj => by
            by_cases e : j = kk
            · subst e; exact PQ.out
            · exact A.out j (by omega)⟩⟩
    · have hltz : ¬ (kk : Int) < (n : Int) := by omega
      have e : kk = n := by omega
      subst e
      go_wp2
      go_ret
      refine ⟨?_, HW.out⟩
      rw [fidx_miss p kk 0 (fun t _ ht => A.out t (by omega))]
      rfl
/-- What stands behind the call. -/
structure After (f : Nat → Value) (p : Nat → Bool) (n cap blk : Nat) (T : TypeId) (w w' : World) : Prop where
  os : w'.os = w.os
  tape : w'.tape = w.tape
  output : w'.output = w.output
  kept_ : Kept w w' (fun k => k = blk)
  row : ∃ cur : Array Value, w'.heap[blk]? = some (.cells cur T (0, 0)) ∧ cur.size = cap ∧ ∀ (t : Nat) (x : Nat), (kept p n)[t]? = some x → cur[t]? = some (f x)
set_option maxHeartbeats 4000000 in
set_option maxRecDepth 1000000 in
theorem deleteFuncL (cur : Array Value) (w : World) (hblk : w.heap[blk]? = some (.cells cur T (0, 0))) (hbig : n ≤ 9223372036854775807) (hcap : n ≤ cap) (hsize : cur.size = cap)
    (hv : ∀ t, t < n → cur[t]? = some (.slice (fa t) (fl t) (fc t)))
    (hcl : ∀ j, j < n → ∀ W : World, W.os = w.os → W.tape = w.tape → W.output = w.output → Kept w W (fun k => k = blk) → Calls Try.prog g (#[.slice (fa j) (fl j) (fc j)] ++ lb) W fun e W' => e = .returned (.bool (p j)) ∧ Below W.heap.size W W') :
    Calls Try.prog 50 #[.slice (some ⟨blk, 0, none⟩) n cap, .func (.func g) #[] lb] w fun e w' =>
      e = .returned (.slice (some ⟨blk, 0, none⟩) (kept p n).length cap) ∧ After (fun t => .slice (fa t) (fl t) (fc t)) p n cap blk T w w' := by
  have hIF := indexFuncL g lb eg fa fl fc p blk n cap T cur w hblk hbig hv (fun j hj W hW => hcl j hj W hW.os hW.tape hW.output (Kept.of_below hW _))
  rcases fidx_cases p n with hall | ⟨k0, hk0, hp0, hmin⟩
  · rw [fidx_miss p n 0 (fun t _ ht => hall t (by omega))] at hIF
    have HR := Hide.mk (kept_all p n hall)
    have HB := Hide.mk hblk
    have HV := Hide.mk hv
    clear hblk hv hcl hall
    go_enter Try.func50, Try.ntmps50
    go_wp2_with (go_at_call 72; refine hIF.mono ?_; rintro e w1 ⟨rfl, hb⟩; have HW := Hide.mk hb; clear hb)
    go_ret
    refine ⟨?_, HW.out.os, HW.out.tape, HW.out.output, Kept.of_below HW.out _, cur, (HW.out.block blk (blk_lt HB.out)).trans HB.out, hsize, fun t x ht => ?_⟩
    · rw [HR.out, List.length_range]; rfl
    · rw [HR.out] at ht
      obtain ⟨h1, h2⟩ := List.getElem?_eq_some_iff.1 ht
      rw [List.getElem_range] at h2
      subst h2
      exact HV.out t (by simpa using h1)
  · rw [fidx_hit p n 0 k0 (by omega) (by omega) hp0 (fun t _ ht => hmin t ht)] at hIF
    have hne1 : ((k0 : Int) == -1) = false := beq_eq_false_iff_ne.2 (by omega)
    have K0 : Hide (KInv (fun t => .slice (fa t) (fl t) (fc t)) p n cap cur (k0 + 1) k0) := ⟨by
      have e := kept_first p k0 hmin hp0
      refine ⟨hsize, by rw [e, List.length_range], by omega, by omega, fun t x ht => ?_, fun t h1 h2 => hv t h2⟩
      rw [e] at ht
      obtain ⟨h1, h2⟩ := List.getElem?_eq_some_iff.1 ht
      rw [List.getElem_range] at h2
      subst h2
      exact hv t (by have := h1; rw [List.length_range] at this; omega)⟩
    have HB := Hide.mk hblk
    have HC := Hide.mk hcl
    have HS := Hide.mk hsize
    clear hblk hv hcl hmin hp0 hsize
    have v22 : ∀ w, (zeroValue 24).run Try.prog w = .ok (.slice none 0 0) w := fun w => by kernel_rfl
    have t48 := Try.underlying31
    go_enter Try.func50, Try.ntmps50
    go_wp2_with (go_at_call 72; refine hIF.mono ?_; rintro e w1 ⟨rfl, hb⟩; have HW := Hide.mk hb; clear hb)
    go_loopg [5, 6, 7] n (fun gg s5 s6 _ wr => ∃ (i j : Nat), s5 = .int .i64 i ∧ s6 = .int .i64 j ∧ j ≤ n ∧ n - j ≤ gg ∧ i < j ∧ Hide (wr.os = w.os ∧ wr.tape = w.tape ∧ wr.output = w.output) ∧ Hide (Kept w wr (fun k => k = blk)) ∧
      Hide (∃ c : Array Value, wr.heap[blk]? = some (.cells c T (0, 0)) ∧ KInv (fun t => .slice (fa t) (fl t) (fc t)) p n cap c j i))
    case atStart => exact ⟨k0, k0 + 1, rfl, by go_num, by omega, by omega, by omega, ⟨HW.out.os, HW.out.tape, HW.out.output⟩, ⟨Kept.of_below HW.out _⟩, ⟨cur, (HW.out.block blk (blk_lt HB.out)).trans HB.out, K0.out⟩⟩
    case round =>
      obtain ⟨i, j, rfl, rfl, hjn, hgg, hij, HO, HK, HI⟩ := hrel
      obtain ⟨c, hcb, hki⟩ := HI.out
      have HCB := Hide.mk hcb
      have HKI := Hide.mk hki
      clear HI
      by_cases hlt : j < n
      · have hltz : (j : Int) < (n : Int) := by omega
        have cj : wr.cell? ⟨blk, j, none⟩ = some (.slice (fa j) (fl j) (fc j)) := by rw [blk_cell hcb j]; exact hki.high j (Nat.le_refl _) hlt
        have hlen := hki.size
        have hcall := Hide.mk (HC.out j hlt wr HO.out.1 HO.out.2.1 HO.out.2.2 HK.out)
        clear hcb hki
        cases hq : p j with
        | false =>
          have PQ := Hide.mk hq
          clear hq
          go_wp2_with (go_at_fn g; refine hcall.out.mono ?_; rintro e w2 ⟨rfl, hb⟩; rw [PQ.out]; have HB2 := Hide.mk hb; clear hb; have HC2 := Hide.mk ((HB2.out.block blk (blk_lt HCB.out)).trans HCB.out); have ci : w2.cell? ⟨blk, i, none⟩ = some (c.getD i undef) := (by rw [blk_cell HC2.out i, Array.getElem?_eq_getElem (by omega)]; simp [Array.getD, show i < c.size by omega]); have fi : w2.frozen? ⟨blk, i, none⟩ = false := blk_frozen HC2.out i)
          go_roundg (n - (j + 1))
          case measure => omega
          case rel =>
            refine ⟨i + 1, j + 1, by go_num, by go_num, by omega, by omega, by omega, ⟨HB2.out.os.trans HO.out.1, HB2.out.tape.trans HO.out.2.1, HB2.out.output.trans HO.out.2.2⟩, ⟨?_⟩, ⟨c.setIfInBounds i (.slice (fa j) (fl j) (fc j)), ?_, HKI.out.keep hlt hcap PQ.out⟩⟩
            · exact (HK.out.below HB2.out).setCell (.inl rfl) _
            · exact blk_set HC2.out i _
        | true =>
          have PQ := Hide.mk hq
          clear hq
          go_wp2_with (go_at_fn g; refine hcall.out.mono ?_; rintro e w2 ⟨rfl, hb⟩; rw [PQ.out]; have HB2 := Hide.mk hb; clear hb; have HC2 := Hide.mk ((HB2.out.block blk (blk_lt HCB.out)).trans HCB.out))
          go_roundg (n - (j + 1))
          case measure => omega
          case rel =>
            exact ⟨i, j + 1, rfl, by go_num, by omega, by omega, by omega, ⟨HB2.out.os.trans HO.out.1, HB2.out.tape.trans HO.out.2.1, HB2.out.output.trans HO.out.2.2⟩, ⟨HK.out.below HB2.out⟩, ⟨c, HC2.out, HKI.out.skip hlt PQ.out⟩⟩
      · have e : j = n := by omega
        subst e
        have hltz : ¬ (j : Int) < (j : Int) := by omega
        have hlen := hki.size
        have hcl : ∀ ty, (Builtin.clear_ #[31] ty #[.slice (some ⟨blk, i, none⟩) (j - i) (cap - i)]).run Try.prog wr = .ok (.tuple #[]) (wr.setCells blk i (List.replicate (j - i) (.slice none 0 0))) :=
          fun ty => Lib.run_clear_slice wr _ _ ty _ t48 v22 rfl rfl blk i _ _ (by omega) (fun t ht => by rw [blk_cell hcb, Array.getElem?_eq_getElem (by omega)]; rfl) (fun t ht => blk_frozen hcb _)
        clear hcb hki
        go_wp2
        go_ret
        have hrow := setCells_row (List.replicate (j - i) (.slice none 0 0)) i wr c HCB.out (by simp; omega)
        refine ⟨by rw [← HKI.out.len]; rfl, ?_⟩
        obtain ⟨cur', h1, h2, h3⟩ := hrow
        obtain ⟨s1, s2, s3, s4⟩ := setCells_same blk (List.replicate (j - i) (.slice none 0 0)) i wr
        refine ⟨s1.trans HO.out.1, s2.trans HO.out.2.1, s3.trans HO.out.2.2, ?_, cur', h1, by rw [h2]; exact HKI.out.size, fun t x ht => ?_⟩
        · exact HK.out.then_ (S2 := fun k => k = blk) ⟨Nat.le_of_eq s4.symm, fun k _ hk => setCells_far _ _ k hk⟩ (fun k hk => .inl hk)
        · have hl := HKI.out.low t x ht
          have hti : t < i := by rw [HKI.out.len]; exact (List.getElem?_eq_some_iff.1 ht).1
          rw [← Array.getElem?_toList] at hl ⊢
          have hlc : i ≤ c.toList.length := by rw [Array.length_toList]; omega
          rw [h3, List.append_assoc, List.getElem?_append_left (by rw [List.length_take]; omega), List.getElem?_take_of_lt hti]
          exact hl
set_option maxHeartbeats 1000000 in
theorem deleteFuncL_nil (w : World) : Calls Try.prog 50 #[.slice none 0 0, .func (.func g) #[] lb] w fun e w' => e = .returned (.slice none 0 0) ∧ w' = w := by
  have hIF : Calls Try.prog 72 #[.slice none 0 0, .func (.func g) #[] lb] w fun e w' => e = .returned (.int .i64 (-1)) ∧ w' = w := by
    go_enter Try.func72, Try.ntmps72
    go_wp2
    go_loopg [5, 8] 0 (fun _ _ s8 wr => s8 = .int .i64 0 ∧ wr = w)
    case atStart => exact ⟨rfl, rfl⟩
    case round =>
      obtain ⟨rfl, rfl⟩ := hrel
      go_wp2
      go_ret
      exact ⟨rfl, rfl⟩
  go_enter Try.func50, Try.ntmps50
  go_wp2_with (go_at_call 72; refine hIF.mono ?_; rintro e w1 ⟨rfl, rfl⟩)
  go_ret
  exact ⟨rfl, rfl⟩
end
theorem kept_take (p : Nat → Bool) (q : List Int → Bool) (xs : List (List Int)) (h : ∀ (t : Nat) (x : List Int), xs[t]? = some x → p t = q x) :
    ∀ n, n ≤ xs.length → (kept p n).map (fun t => xs.getD t []) = (xs.take n).filter (fun x => !q x)
  | 0, _ => by simp [kept]
  | n + 1, hn => by
    have hlt : n < xs.length := hn
    have ih := kept_take p q xs h n (by omega)
    have ha : p n = q xs[n] := h n xs[n] (List.getElem?_eq_getElem hlt)
    have hg : xs.getD n [] = xs[n] := by rw [List.getD_eq_getElem?_getD, List.getElem?_eq_getElem hlt]; rfl
    rw [List.take_succ_eq_append_getElem hlt, List.filter_append, kept_succ, ← ih]
    cases hp : q xs[n] with
    | true => rw [ha, hp, if_pos rfl]; simp [hp]
    | false => rw [ha, hp, if_neg (by decide), List.map_append, List.map_singleton, hg]; simp [hp]
theorem kept_map (p : Nat → Bool) (q : List Int → Bool) (xs : List (List Int)) (h : ∀ (t : Nat) (x : List Int), xs[t]? = some x → p t = q x) :
    (kept p xs.length).map (fun t => xs.getD t []) = xs.filter (fun x => !q x) := by
  rw [kept_take p q xs h xs.length (Nat.le_refl _), List.take_length]
theorem kept_nodup (p : Nat → Bool) (n : Nat) : (kept p n).Nodup := List.Pairwise.filter (fun t => !p t) List.nodup_range
theorem kept_at {p : Nat → Bool} {n t x : Nat} (h : (kept p n)[t]? = some x) : x < n ∧ (kept p n).idxOf x = t := by
  obtain ⟨h1, h2⟩ := List.getElem?_eq_some_iff.1 h
  refine ⟨?_, by rw [← h2]; exact (kept_nodup p n).idxOf_getElem t h1⟩
  have : x ∈ kept p n := h2 ▸ List.getElem_mem h1
  unfold kept at this
  simpa using (List.mem_filter.1 this).1
section
variable (g : Nat) (lb : Array Value) (eg : ∀ args w, (callFunc g args).run Try.prog w = .ok (.enter g args) w)
include eg
/-- slices.DeleteFunc over a row of the call's own whose elements are rows of numbers, apart from each other. -/
theorem deleteS {w : World} {base : Nat} {ok : Nat → Prop} {v : Value} {xs : List (List Int)} (q : List Int → Bool) (hS : Kd.S (Kd.slice 3 (Kd.int .i64)) 24 w base ok v xs) (hbig : xs.length ≤ 9223372036854775807)
    (hcl : ∀ x ∈ xs, ∀ (A : Option Addr) (c : Nat) (W : World), W.os = w.os → W.tape = w.tape → W.output = w.output → Kept w W (fun k => some k = v.ownBlock) → Kd.C (Kd.int .i64) W A x.length x → x.length ≤ c →
      Calls Try.prog g (#[.slice A x.length c] ++ lb) W fun e W' => e = .returned (.bool (q x)) ∧ Below W.heap.size W W') :
    Calls Try.prog 50 #[v, .func (.func g) #[] lb] w fun e w' =>
      ∃ v', e = .returned v' ∧ Kd.S (Kd.slice 3 (Kd.int .i64)) 24 w' base ok v' (xs.filter fun x => !q x) ∧ v'.ownBlock = v.ownBlock ∧ w'.os = w.os ∧ w'.tape = w.tape ∧ w'.output = w.output ∧ Kept w w' (fun k => some k = v.ownBlock) := by
  obtain ⟨f, h0, inner, ho, hr⟩ := hS
  rw [List.length_zipIdx] at ho
  obtain ⟨hlen, ⟨rfl, hn⟩ | ⟨blk, cap, cur, rfl, hge, hblk, hcap, hmax, hsz, htake⟩⟩ := ho
  · have hx : xs = [] := List.eq_nil_of_length_eq_zero hn
    subst hx
    refine (deleteFuncL_nil g lb eg w).mono fun e w' ⟨he, hw⟩ => ?_
    subst hw
    exact ⟨_, he, ⟨f, Kd.R_nil _ _ _ _ _⟩, rfl, rfl, rfl, rfl, Kept.refl _ _⟩
  · have hsz1 : cur.size = cap := by
      have : (Kd.slice 3 (Kd.int .i64)).sz = 1 := rfl
      have h2 : (Kd.tag f (Kd.slice 3 (Kd.int .i64))).sz = 1 := rfl
      rw [h2] at hsz
      omega
    have hsz2 : (Kd.tag f (Kd.slice 3 (Kd.int .i64))).sz = 1 := rfl
    rw [hsz2, Nat.mul_one] at htake
    -- each element's cell
    have hel : ∀ (t : Nat) (x : List Int), xs[t]? = some x → ∃ u, cur[t]? = some u ∧ (Kd.int .i64).R 3 w base (fun k => ((ok k ∧ some k ≠ (Value.slice (some ⟨blk, 0, none⟩) xs.length cap).ownBlock) ∧ f k = t)) u x := fun t x ht => by
      have a := hr.2 t (x, t) (Kd.zip_at ht)
      obtain ⟨u, hu, hR⟩ := a
      have hlt : t < xs.length := (List.getElem?_eq_some_iff.1 ht).1
      refine ⟨u, ?_, hR⟩
      rw [hsz2, Nat.mul_one] at hu
      have h3 : inner[t]? = some u := by
        have := congrArg (fun l => l[0]?) hu
        simpa [List.getElem?_take_of_lt, List.getElem?_drop] using this
      rw [← htake, List.getElem?_take_of_lt hlt] at h3
      rw [← Array.getElem?_toList]; exact h3
    let fa : Nat → Option Addr := fun t => match cur[t]? with | some (.slice a _ _) => a | _ => none
    let fl : Nat → Nat := fun t => match cur[t]? with | some (.slice _ n _) => n | _ => 0
    let fc : Nat → Nat := fun t => match cur[t]? with | some (.slice _ _ c) => c | _ => 0
    have hcell : ∀ (t : Nat) (x : List Int), xs[t]? = some x → cur[t]? = some (.slice (fa t) (fl t) (fc t)) ∧ fl t = x.length ∧ (Kd.int .i64).R 3 w base (fun k => ((ok k ∧ some k ≠ (Value.slice (some ⟨blk, 0, none⟩) xs.length cap).ownBlock) ∧ f k = t)) (.slice (fa t) (fl t) (fc t)) x := fun t x ht => by
      obtain ⟨u, hu, hR⟩ := hel t x ht
      obtain ⟨A, c, e⟩ := Kd.R_slice hR
      subst e
      have e1 : fa t = A := by show (match cur[t]? with | some (.slice a _ _) => a | _ => none) = A; rw [hu]
      have e2 : fl t = x.length := by show (match cur[t]? with | some (.slice _ n _) => n | _ => 0) = x.length; rw [hu]
      have e3 : fc t = c := by show (match cur[t]? with | some (.slice _ _ c) => c | _ => 0) = c; rw [hu]
      rw [e1, e2, e3]
      exact ⟨hu, rfl, hR⟩
    let pb : Nat → Bool := fun t => q (xs.getD t [])
    have hget : ∀ (t : Nat) (x : List Int), xs[t]? = some x → xs.getD t [] = x := fun t x ht => by rw [List.getD_eq_getElem?_getD, ht]; rfl
    have hat : ∀ t, t < xs.length → xs[t]? = some (xs.getD t []) := fun t ht => by rw [List.getD_eq_getElem?_getD, List.getElem?_eq_getElem ht]; rfl
    have hne : ∀ (k t : Nat), ((ok k ∧ some k ≠ (Value.slice (some ⟨blk, 0, none⟩) xs.length cap).ownBlock) ∧ f k = t) → ¬ k = blk := fun k t hk e => hk.1.2 (by rw [e]; rfl)
    refine (deleteFuncL g lb eg fa fl fc pb blk xs.length cap 24 cur w hblk hbig hcap hsz1 (fun t ht => (hcell t _ (hat t ht)).1) (fun j hj W hos htp hout hK => ?_)).mono fun e w' ⟨he, hA⟩ => ?_
    · obtain ⟨_, h2, h3⟩ := hcell j _ (hat j hj)
      have h4 := Kd.R_kept h3 hK (fun k hk => hne k j hk)
      have h5 := Kd.R_reads' h4
      have h6 := hcl (xs.getD j []) (List.mem_of_getElem? (hat j hj)) (fa j) (fc j) W hos htp hout (hK.mono (fun k hk => by rw [hk]; rfl)) h5.2.2 (h2 ▸ h5.2.1)
      rw [← h2] at h6
      exact h6
    · obtain ⟨cur', hc1, hc2, hc3⟩ := hA.row
      have hmap := kept_map pb q xs (fun t x ht => by show q (xs.getD t []) = q x; rw [hget t x ht])
      have hlen' : (xs.filter fun x => !q x).length = (kept pb xs.length).length := by rw [← hmap, List.length_map]
      refine ⟨_, he, ⟨fun k => (kept pb xs.length).idxOf (f k), fun k hk => h0 k hk, (kept pb xs.length).map (fun t => .slice (fa t) (fl t) (fc t)), ?_, ?_, ?_⟩, rfl, hA.os, hA.tape, hA.output, hA.kept_.mono (fun k hk => by rw [hk]; rfl)⟩
      · rw [List.length_zipIdx, hlen']
        refine ⟨by rw [List.length_map]; exact (Nat.mul_one _).symm, .inr ⟨blk, cap, cur', rfl, hge, hc1, by have := kept_len pb xs.length; omega, hmax, by rw [hc2]; exact (Nat.mul_one _).symm, ?_⟩⟩
        show cur'.toList.take ((kept pb xs.length).length * 1) = _
        rw [Nat.mul_one]
        apply List.ext_getElem?
        intro t
        rcases Nat.lt_or_ge t (kept pb xs.length).length with h | h
        · rw [List.getElem?_take_of_lt h, Array.getElem?_toList, hc3 t _ (List.getElem?_eq_getElem h), List.getElem?_map, List.getElem?_eq_getElem h]; rfl
        · rw [List.getElem?_eq_none (by rw [List.length_take]; omega), List.getElem?_eq_none (by rw [List.length_map]; omega)]
      · rw [List.length_map, List.length_zipIdx, hlen']; exact (Nat.mul_one _).symm
      · rintro j ⟨y, j'⟩ hp
        have hz : (xs.filter fun x => !q x)[j]? = some y ∧ j = j' := by
          rw [List.getElem?_zipIdx, Nat.zero_add] at hp
          cases hy : (xs.filter fun x => !q x)[j]? with
          | none => rw [hy] at hp; cases hp
          | some z => rw [hy] at hp; cases hp; exact ⟨rfl, rfl⟩
        obtain ⟨hy, rfl⟩ := hz
        rw [← hmap, List.getElem?_map] at hy
        cases hk : (kept pb xs.length)[j]? with
        | none => rw [hk] at hy; cases hy
        | some x =>
          rw [hk] at hy
          have hy2 : xs.getD x [] = y := by simpa using hy
          obtain ⟨hxn, hidx⟩ := kept_at hk
          obtain ⟨_, h2, h3⟩ := hcell x _ (hat x hxn)
          rw [hy2] at h2 h3
          refine ⟨.slice (fa x) (fl x) (fc x), ?_, Kd.R_mono (Kd.R_kept h3 hA.kept_ (fun k hk => hne k x hk)) (fun k hk => ⟨⟨hk.1.1, hk.1.2⟩, by show (kept pb xs.length).idxOf (f k) = j; rw [hk.2]; exact hidx⟩)⟩
          show (((kept pb xs.length).map (fun t => Value.slice (fa t) (fl t) (fc t))).drop (j * 1)).take 1 = _
          rw [Nat.mul_one]
          have hj : j < (kept pb xs.length).length := (List.getElem?_eq_some_iff.1 hk).1
          rw [List.drop_eq_getElem_cons (by rw [List.length_map]; exact hj), List.take_succ_cons, List.take_zero, List.getElem_map, (List.getElem?_eq_some_iff.1 hk).2]
end
end Go.Proofs.YtlolkkfpfjlhmaaOwn
