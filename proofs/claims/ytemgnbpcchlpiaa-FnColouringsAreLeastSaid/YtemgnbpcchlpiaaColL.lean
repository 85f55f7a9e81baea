/- The search for a colouring, which writes its colours in place: walked once. -/
import Derived.Test.YtemgnbpcchlpiaaDelI
import Derived.Test.YtemgnbpcchlpiaaWMore
import Derived.Shelf.GgSortFunc.SW
import Derived.ArgAppend
import Derived.Deep.DeepAppendRoom
namespace Go.Proofs.YtemgnbpcchlpiaaOwn
open Go.RowKit Go.Shelf Go.Proofs.YtemgnbpcchlpiaaW.PrintWords Go.Proofs.YtemgnbpcchlpiaaW.PrintLast Go.Proofs.YtemgnbpcchlpiaaW.PrintMore
set_option linter.unusedVariables false
set_option linter.unusedSimpArgs false
/-- Is a colour taken, among d places from i on, by a set that is apart from the set at 'at_'? -/
def clashL (sets list : List Int) (at_ : Nat) (c : Int) : Nat → Nat → Bool → Bool
  | 0, _, b => b
  | d + 1, i, b => clashL sets list at_ c d (i + 1) (b || (decide (rd list (i : Int) = c) && decide (Go.bits .and .i64 (rd sets (i : Int)) (rd sets (at_ : Int)) = 0)))
/-- The first colour from c on, of m, with which it goes on. -/
def tryC (g : Int → Option (List Int)) : Nat → Int → Option (List Int)
  | 0, _ => none
  | m + 1, c => match g c with
    | some r => some r
    | none => tryC g m (c + 1)
/-- The first colouring that goes on a list of colours, for d more sets. -/
def colG (sets : List Int) (count : Int) : Nat → List Int → Int → Option (List Int)
  | 0, list, _ => some list
  | d + 1, list, used => tryC (fun c => if clashL sets list list.length c list.length 0 false = true then none else colG sets count d (list ++ [c]) (max used (c + 1))) (min count (used + 1)).toNat 0
theorem sw_far {w0 W : World} {B : Nat} {dk : Array Int} (h : SW encI w0 B 0 dk W) {a : Addr} {u : Value} (ha : a.block ≠ B) (hc : w0.cell? a = some u) : W.cell? a = some u := by
  obtain ⟨n, os, rfl⟩ := h
  have hlt : a.block < w0.heap.size := by
    unfold World.cell? at hc
    rcases Nat.lt_or_ge a.block w0.heap.size with h1 | h1
    · exact h1
    · rw [Array.getElem?_eq_none h1] at hc
      cases hc
  have e : (sortWorld encI w0 B 0 n dk os).heap[a.block]? = w0.heap[a.block]? := by
    unfold sortWorld
    rw [Go.Sort.heap_grow_old _ os (by rw [Go.Sort.size_putRow]; exact hlt), put_far dk ha]
  unfold World.cell? at hc ⊢
  rw [e]; exact hc
theorem sw_setI {w0 W : World} {blk off : Nat} {dk : Array Int} (h : SW encI w0 blk off dk W) (hblk : blk < w0.heap.size) (i : Nat) (x : Int) (hi : i < dk.size) : SW encI w0 blk off (dk.setIfInBounds i x) (W.setCell ⟨blk, off + i, none⟩ (encI x)) := by
  obtain ⟨n, os, rfl⟩ := h
  refine ⟨n, os, ?_⟩
  unfold sortWorld
  rw [← Go.Sort.putRow_grow encI (Go.Sort.ahead w0 n) os blk off dk hblk, Go.Sort.putRow_set encI _ blk off dk i x hi, Go.Sort.putRow_grow encI (Go.Sort.ahead w0 n) os blk off _ hblk]
theorem app_one {W : World} {B n cap : Nat} {ty : TypeId} (c : Int) (hn : n + 1 ≤ cap) (hc : (W.cell? ⟨B, n, none⟩).isSome = true) (hf : W.frozen? ⟨B, n, none⟩ = false) (hB : B < W.heap.size) :
    (Builtin.append_ #[26, 26] ty #[.slice (some ⟨B, 0, none⟩) n cap, .slice (some ⟨W.heap.size, 0, none⟩) 1 1]).run Try.prog (W.alloc (.cells #[.int .i64 c] 3 (0, 0))) = .ok (.slice (some ⟨B, 0, none⟩) (n + 1) cap) ((W.alloc (.cells #[.int .i64 c] 3 (0, 0))).setCell ⟨B, n, none⟩ (encI c)) := by
  obtain ⟨i, hi, hz, hs, hb⟩ := info_parts (P := Try.prog) (by kernel_rfl : (Try.prog.info? 3).map (fun i => (i.zero, i.size, i.bytes)) = some (some (.int .i64 0), 1, 8))
  have hh : (W.alloc (.cells #[.int .i64 c] 3 (0, 0))).heap[W.heap.size]? = some (.cells #[.int .i64 c] 3 (0, 0)) := by
    unfold World.alloc
    simp
  have hold : (W.alloc (.cells #[.int .i64 c] 3 (0, 0))).heap[B]? = W.heap[B]? := (below_alloc (Below.refl W.heap.size W) _).block B hB
  have := run_append_room_cells (P := Try.prog) (W.alloc (.cells #[.int .i64 c] 3 (0, 0))) 26 ty 3 i Try.underlying26 hi B 0 n cap ⟨W.heap.size, 0, none⟩ 1 1 [encI c] (by rw [hs]; rfl)
    (fun j u hu => by
      have hj : j = 0 ∧ u = encI c := by
        cases j with
        | zero => exact ⟨rfl, (Option.some.inj hu).symm⟩
        | succ j => simp at hu
      obtain ⟨rfl, rfl⟩ := hj
      rw [add_at, blk_cell hh 0]
      rfl)
    (fun u hu => by rw [List.mem_singleton.1 hu]; rfl) hn
    (fun j hj => by
      have hj0 : j = 0 := by simpa using hj
      subst hj0
      rw [hs, Nat.mul_one, Nat.zero_add, Nat.add_zero]
      unfold World.cell? at hc ⊢
      rw [hold]; exact hc)
    (fun j hj => by
      have hj0 : j = 0 := by simpa using hj
      subst hj0
      rw [hs, Nat.mul_one, Nat.zero_add, Nat.add_zero]
      unfold World.frozen? at hf ⊢
      rw [hold]; exact hf)
  rw [hs, Nat.mul_one, Nat.zero_add] at this
  exact this
/-- The block B of the world w holds dk, and dk begins with the list. -/
structure Has (w : World) (B cap : Nat) (list : List Int) (dk : Array Int) : Prop where
  size : dk.size = cap
  len : list.length ≤ cap
  pre : ∀ (j : Nat) (x : Int), list[j]? = some x → dk[j]! = x
  holds : Go.Sort.Holds encI w B 0 dk
  lt : B < w.heap.size
theorem Has.at_ {w0 W : World} {B cap : Nat} {list : List Int} {dk d2 : Array Int} (h : Has w0 B cap list dk) (hs : SW encI w0 B 0 d2 W) (h2 : d2.size = cap) (hp : ∀ (j : Nat) (x : Int), list[j]? = some x → d2[j]! = x) {i : Nat} (hi : i < list.length) : W.cell? ⟨B, i, none⟩ = some (.int .i64 (rd list (i : Int))) := by
  have hH := hs.holds h.lt h.holds (by rw [h2, h.size])
  have hlen := h.len
  have := (hH i (by omega)).1
  rw [Nat.zero_add, hp i _ (List.getElem?_eq_getElem hi)] at this
  rw [this]
  unfold rd
  rw [Int.toNat_natCast, List.getD_eq_getElem?_getD, List.getElem?_eq_getElem hi]
  rfl
theorem Has.full {w : World} {B : Nat} {list : List Int} {dk : Array Int} (h : Has w B list.length list dk) : dk.toList = list := by
  apply List.ext_getElem?
  intro j
  rcases Nat.lt_or_ge j list.length with h1 | h1
  · have h2 : j < dk.size := by rw [h.size]; exact h1
    have := h.pre j _ (List.getElem?_eq_getElem h1)
    rw [getElem!_pos dk j h2] at this
    rw [List.getElem?_eq_getElem h1, ← this, Array.getElem?_toList, Array.getElem?_eq_getElem h2]
  · rw [List.getElem?_eq_none (by rw [Array.length_toList, h.size]; exact h1), List.getElem?_eq_none h1]
theorem setsAt {w0 W : World} {B b0 o0 : Nat} {dk : Array Int} {sets : List Int} (hne : b0 ≠ B) (hs : SW encI w0 B 0 dk W) (hw : ∀ (j : Nat) (x : Int), sets[j]? = some x → w0.cell? ⟨b0, o0 + j, none⟩ = some (encI x)) {i : Nat} (hi : i < sets.length) : W.cell? ⟨b0, o0 + i, none⟩ = some (.int .i64 (rd sets (i : Int))) := by
  rw [sw_far hs hne (hw i _ (List.getElem?_eq_getElem hi))]
  unfold rd
  rw [Int.toNat_natCast, List.getD_eq_getElem?_getD, List.getElem?_eq_getElem hi]
  rfl
theorem sw_trans {w0 W W' : World} {B : Nat} {d2 d3 : Array Int} (h : SW encI w0 B 0 d2 W) (hB : B < w0.heap.size) (h' : SW encI W B 0 d3 W') (hs : d3.size = d2.size) : SW encI w0 B 0 d3 W' := by
  obtain ⟨n, os, rfl⟩ := h'
  exact SW.on h hB n d3 os hs
theorem rec_has {w0 W : World} {B cap : Nat} {list : List Int} {dk d2 : Array Int} (h : Has w0 B cap list dk) (hs : SW encI w0 B 0 d2 W) (h2 : d2.size = cap) (hp : ∀ (j : Nat) (x : Int), list[j]? = some x → d2[j]! = x) (c : Int) (hlt : list.length < cap) :
    SW encI w0 B 0 (d2.setIfInBounds list.length c) ((W.alloc (.cells #[.int .i64 c] 3 (0, 0))).setCell ⟨B, list.length, none⟩ (encI c)) ∧ Has ((W.alloc (.cells #[.int .i64 c] 3 (0, 0))).setCell ⟨B, list.length, none⟩ (encI c)) B cap (list ++ [c]) (d2.setIfInBounds list.length c) := by
  have h1 := sw_setI (hs.alloc (.cells #[.int .i64 c] 3 (0, 0))) h.lt list.length c (by omega)
  rw [Nat.zero_add] at h1
  have hsz : (d2.setIfInBounds list.length c).size = cap := by rw [Array.size_setIfInBounds]; exact h2
  refine ⟨h1, hsz, by simp; omega, fun j x hx => ?_, SW.holds h1 h.lt h.holds (by rw [hsz, h.size]), SW.lt h1 h.lt⟩
  rcases Nat.lt_or_ge j list.length with hj | hj
  · rw [List.getElem?_append_left hj] at hx
    rw [Go.Sort.getElem!_set_other d2 list.length j c (by omega)]
    exact hp j x hx
  · have hj2 : j = list.length := by
      have := (List.getElem?_eq_some_iff.1 hx).1
      simp at this
      omega
    subst hj2
    rw [List.getElem?_append_right (Nat.le_refl _), Nat.sub_self] at hx
    cases hx
    exact Go.Sort.getElem!_set_same d2 list.length c (by omega)
theorem pre_left {list : List Int} {c : Int} {d : Array Int} (h : ∀ (j : Nat) (x : Int), (list ++ [c])[j]? = some x → d[j]! = x) : ∀ (j : Nat) (x : Int), list[j]? = some x → d[j]! = x := fun j x hx => h j x (by rw [List.getElem?_append_left (List.getElem?_eq_some_iff.1 hx).1]; exact hx)
theorem tryC_next (g : Int → Option (List Int)) (m c : Nat) (h : c < m) : tryC g (m - c) (c : Int) = match g (c : Int) with
    | some r => some r
    | none => tryC g (m - (c + 1)) ((c : Int) + 1) := by
  obtain ⟨n, hn⟩ : ∃ n, m - c = n + 1 := ⟨m - c - 1, by omega⟩
  rw [hn, show m - (c + 1) = n by omega]
  rfl
/-- One colour more. -/
theorem col_next (sets list : List Int) (count used : Int) (d m c : Nat) (cl : Bool) (h : c < m) (hcl : clashL sets list list.length (c : Int) list.length 0 false = cl) :
    tryC (fun c => if clashL sets list list.length c list.length 0 false = true then none else colG sets count d (list ++ [c]) (max used (c + 1))) (m - c) (c : Int) =
      match (if cl = true then none else colG sets count d (list ++ [(c : Int)]) (max used ((c : Int) + 1))) with
      | some r => some r
      | none => tryC (fun c => if clashL sets list list.length c list.length 0 false = true then none else colG sets count d (list ++ [c]) (max used (c + 1))) (m - (c + 1)) ((c : Int) + 1) := by
  rw [tryC_next _ m c h, hcl]
theorem max_if (u c : Int) : (if u < c then c else u) = max u c := by
  by_cases h : u < c
  · rw [if_pos h]; omega
  · rw [if_neg h]; omega
theorem max_bound {u : Int} {c m : Nat} (h0 : 0 ≤ u) (h1 : u ≤ 1000) (hc : c < m) (hm : m ≤ 1000) : 0 ≤ max u ((c : Int) + 1) ∧ max u ((c : Int) + 1) ≤ 1000 := by omega
theorem len_snoc (l : List Int) (c : Int) : (l ++ [c]).length = l.length + 1 := by simp
theorem wpList_app_run {P : Program} {w : World} {ops : Array Oper} {rest : List Oper} {o : Oper} {a : Act} {Q : Exit → Act → World → Prop} (hgd : o.guard = none) (s x : Operand) (t : TypeId)
    (ho : o.op = .call { callee := .builtin .append, args := #[s, x], argTypes := #[t, t] }) (vs vx v' : Value) (w' : World) (hs : a.eval s = vs) (hx : a.eval x = vx)
    (hr : (Builtin.append_ #[t, t] o.type #[vs, vx]).run P w = .ok v' w') (h : wpList P ops Q rest (a.put o.dst v') w') : wpList P ops Q (o :: rest) a w :=
  wpList_plain hgd fun _ hK => by
    unfold Oper.wp execOp
    simp only [ho, resolve, invoke, builtin, Sem.run_bind, Sem.run_pure, Result.andThen_ok, List.map_toArray, List.map_cons, List.map_nil, hs, hx, hr]
    exact hK _ _ h
theorem clash_next (sets list : List Int) (c : Int) (i : Nat) (b : Bool) (h : i < list.length) : clashL sets list list.length c (list.length - i) i b = clashL sets list list.length c (list.length - (i + 1)) (i + 1) (b || (decide (rd list (i : Int) = c) && decide (Go.bits .and .i64 (rd sets (i : Int)) (rd sets (list.length : Int)) = 0))) := by
  rw [show list.length - i = (list.length - (i + 1)) + 1 by omega]
  rfl
theorem wrap_next {i : Nat} (h : i ≤ 100000) : wrap64 ((i : Int) + 1) = ((i + 1 : Nat) : Int) := by unfold wrap64; omega
attribute [local go_sem] max2_int min2_int max_two min_two
set_option maxHeartbeats 8000000 in
set_option maxRecDepth 100000 in
theorem colour_calls (sets : List Int) (count : Int) (b0 o0 c0 B : Nat) (hne : b0 ≠ B) (hl : sets.length ≤ 1000) (hc0 : 0 ≤ count) (hc1 : count ≤ 1000) :
    ∀ (d : Nat) (list : List Int) (used : Int) (dk : Array Int) (w : World), list.length + d = sets.length → 0 ≤ used → used ≤ 1000 → Has w B sets.length list dk → (∀ (j : Nat) (x : Int), sets[j]? = some x → w.cell? ⟨b0, o0 + j, none⟩ = some (encI x)) →
      Calls Try.prog 108 #[.slice (some ⟨b0, o0, none⟩) sets.length c0, .slice (some ⟨B, 0, none⟩) list.length sets.length, .int .i64 count, .int .i64 used] w fun e w' =>
        e = .returned (.bool (colG sets count d list used).isSome) ∧ ∃ dk', SW encI w B 0 dk' w' ∧ dk'.size = sets.length ∧ (∀ (j : Nat) (x : Int), list[j]? = some x → dk'[j]! = x) ∧ ∀ r, colG sets count d list used = some r → dk'.toList = r := by
  intro d
  induction d with
  | zero =>
    intro list used dk w hd hu0 hu1 hH hS
    rw [Nat.add_zero] at hd
    have hq : ((list.length : Int) == (sets.length : Int)) = true := beq_iff_eq.2 (by omega)
    have HH := Aside0.mk hH
    clear hH hS
    go_enter Try.func108, Try.ntmps108
    go_wp2
    go_ret
    have hh := HH.out
    refine ⟨rfl, dk, SW.start hh.holds, hh.size, hh.pre, fun r hr => ?_⟩
    cases hr
    rw [← hd] at hh
    exact hh.full
  | succ d ih =>
    intro list used dk w hd hu0 hu1 hH hS
    have hq : ((list.length : Int) == (sets.length : Int)) = false := beq_eq_false_iff_ne.2 (by omega)
    have hw1 : wrap64 (used + 1) = used + 1 := by unfold wrap64; omega
    have hm : min count (used + 1) = (((min count (used + 1)).toNat : Nat) : Int) := by omega
    generalize hmm : (min count (used + 1)).toNat = m at hm
    have hm2 : m ≤ 1000 := by omega
    have hif : (if used + 1 < count then used + 1 else count) = (m : Int) := by split <;> omega
    have HH := Aside0.mk hH
    have HS := Aside0.mk hS
    have IH := Aside0.mk ih
    have HMM := Aside0.mk hmm
    clear hH hS ih hmm
    go_enter Try.func108, Try.ntmps108
    go_wp2
    go_loopg [25] m (fun gg s25 wr => ∃ (c : Nat) (d2 : Array Int), s25 = .int .i64 c ∧ c ≤ m ∧ m - c ≤ gg ∧ Aside0 (SW encI w B 0 d2 wr ∧ d2.size = sets.length ∧ (∀ (j : Nat) (x : Int), list[j]? = some x → d2[j]! = x) ∧ colG sets count (d + 1) list used = tryC (fun c => if clashL sets list list.length c list.length 0 false = true then none else colG sets count d (list ++ [c]) (max used (c + 1))) (m - c) c))
    case atStart => exact ⟨0, dk, rfl, Nat.zero_le _, by omega, Aside0.mk ⟨SW.start HH.out.holds, HH.out.size, HH.out.pre, by rw [Nat.sub_zero, ← HMM.out]; rfl⟩⟩
    case round =>
      rename World => w1
      obtain ⟨c, d2, rfl, hc, hgg, hA⟩ := hrel
      by_cases hlt : c < m
      · have hltz : (c : Int) < (m : Int) := by omega
        have hnext : wrap64 ((c : Int) + 1) = ((c + 1 : Nat) : Int) := wrap_next (by omega)
        obtain ⟨cl, hcl⟩ : ∃ cl, clashL sets list list.length c list.length 0 false = cl := ⟨_, rfl⟩
        have HCL := Aside0.mk hcl
        clear hcl
        go_wp2
        go_loopg [11, 30] list.length (fun gg s11 s30 wr2 => ∃ (i : Nat) (b : Bool) (q : Nat), s11 = .bool b ∧ s30 = .int .i64 i ∧ i ≤ list.length ∧ list.length - i ≤ gg ∧ wr2 = w1.drewN q ∧ Aside0 (clashL sets list list.length c (list.length - i) i b = cl))
        case atStart => exact ⟨0, false, 0, rfl, rfl, Nat.zero_le _, by omega, rfl, HCL⟩
        case round =>
          obtain ⟨i, b, q, rfl, rfl, hi, hgg2, hw2, hcl⟩ := hrel
          subst hw2
          have swr := hA.out.1
          by_cases hli : i < list.length
          · have hiz : (i : Int) < (list.length : Int) := by omega
            have ci := Has.at_ HH.out swr hA.out.2.1 hA.out.2.2.1 hli
            have si := setsAt hne swr HS.out (i := i) (by omega)
            have sa := setsAt hne swr HS.out (i := list.length) (by omega)
            have his : (i : Int) < (sets.length : Int) := by omega
            have has : (list.length : Int) < (sets.length : Int) := by omega
            have hnext2 : wrap64 ((i : Int) + 1) = ((i + 1 : Nat) : Int) := wrap_next (by omega)
            have hst := clash_next sets list c i b hli
            rw [hcl.out] at hst
            clear hcl
            generalize rd list (i : Int) = x at ci hst
            generalize rd sets (i : Int) = y at si hst
            generalize rd sets (list.length : Int) = z at sa hst
            clear swr hd hu0 hu1 hq hw1 hif hm hm2 hl hc0 hc1 hltz hnext hc hgg HH HS IH HMM HCL hA hne
            cases b with
            | true =>
              rw [Bool.true_or] at hst
              have HST := Aside0.mk hst
              clear hst
              go_wp2
              repeat (go_quiet (fail); try go_wp2)
              go_roundg (list.length - (i + 1))
              case measure => omega
              case rel => exact ⟨i + 1, true, _, rfl, by rw [hnext2], hli, Nat.le_refl _, rfl, Aside0.mk HST.out.symm⟩
            | false =>
              rw [Bool.false_or] at hst
              by_cases hx : x = (c : Int)
              · have hxb : (x == (c : Int)) = true := beq_iff_eq.2 hx
                rw [decide_eq_true hx, Bool.true_and] at hst
                by_cases hb : Go.bits .and .i64 y z = 0
                · have hbb : (Go.bits .and .i64 y z == 0) = true := beq_iff_eq.2 hb
                  rw [decide_eq_true hb] at hst
                  have HST := Aside0.mk hst
                  clear hst hx hb
                  go_wp2
                  repeat (go_quiet (fail); try go_wp2)
                  go_roundg (list.length - (i + 1))
                  case measure => omega
                  case rel => exact ⟨i + 1, true, _, rfl, by rw [hnext2], hli, Nat.le_refl _, rfl, Aside0.mk HST.out.symm⟩
                · have hbb : (Go.bits .and .i64 y z == 0) = false := beq_eq_false_iff_ne.2 hb
                  rw [decide_eq_false hb] at hst
                  have HST := Aside0.mk hst
                  clear hst hx hb
                  go_wp2
                  repeat (go_quiet (fail); try go_wp2)
                  go_roundg (list.length - (i + 1))
                  case measure => omega
                  case rel => exact ⟨i + 1, false, _, rfl, by rw [hnext2], hli, Nat.le_refl _, rfl, Aside0.mk HST.out.symm⟩
              · have hxb : (x == (c : Int)) = false := beq_eq_false_iff_ne.2 hx
                rw [decide_eq_false hx, Bool.false_and] at hst
                have HST := Aside0.mk hst
                clear hst hx
                go_wp2
                repeat (go_quiet (fail); try go_wp2)
                go_roundg (list.length - (i + 1))
                case measure => omega
                case rel => exact ⟨i + 1, false, _, rfl, by rw [hnext2], hli, Nat.le_refl _, rfl, Aside0.mk HST.out.symm⟩
          · have hie : i = list.length := by omega
            have hiz : ¬ (i : Int) < (list.length : Int) := by omega
            have hb : b = cl := by
              have h9 := hcl.out
              rw [hie, Nat.sub_self] at h9
              exact h9
            have htry := col_next sets list count used d m c cl hlt HCL.out
            have hcast : ((c + 1 : Nat) : Int) = (c : Int) + 1 := by omega
            have HCAST := Aside0.mk hcast
            clear hcast
            subst hb
            have hA4 := hA.out.2.2.2
            rw [htry] at hA4
            clear htry hcl hq hw1 hif
            cases b with
            | true =>
              rw [if_pos rfl] at hA4
              have HA4 := Aside0.mk hA4
              have HF := Aside0.mk (And.intro hlt (And.intro hc (And.intro hgg (And.intro hm2 hm))))
              clear hA4 hlt hc hgg hm2 hm hd hu0 hu1 hl hc0 hc1 hne HS IH HMM hgg2 hi hie
              go_wp2
              go_roundg (m - (c + 1))
              case measure => have := HF.out; omega
              case rel => exact ⟨c + 1, d2, by first | rfl | rw [hnext], HF.out.1, Nat.le_refl _, Aside0.mk ⟨SW.drewN hA.out.1 q, hA.out.2.1, hA.out.2.2.1, by rw [HCAST.out]; exact HA4.out⟩⟩
            | false =>
              rw [if_neg (by decide)] at hA4
              have hlen9 := HH.out.len
              have hsz9 := HH.out.size
              have hH9 := (SW.holds hA.out.1 HH.out.lt HH.out.holds (by rw [hA.out.2.1, hsz9])) list.length (by rw [hA.out.2.1]; omega)
              rw [Nat.zero_add] at hH9
              have app := app_one (W := w1.drewN q) (B := B) (n := list.length) (cap := sets.length) (ty := 26) (c : Int) (by omega) (by rw [show (w1.drewN q).cell? ⟨B, list.length, none⟩ = w1.cell? ⟨B, list.length, none⟩ from rfl, hH9.1]; rfl) hH9.2 (SW.lt (SW.drewN hA.out.1 q) HH.out.lt)
              have hR := rec_has HH.out (SW.drewN hA.out.1 q) hA.out.2.1 hA.out.2.2.1 (c : Int) (by omega)
              obtain ⟨mu, hmu⟩ : ∃ mu, max used ((c : Int) + 1) = mu := ⟨_, rfl⟩
              have hmu2 : (if used < (c : Int) + 1 then (c : Int) + 1 else used) = mu := by rw [← hmu]; exact max_if _ _
              have hlen10 := len_snoc list (c : Int)
              have hmb := max_bound hu0 hu1 hlt hm2
              rw [hmu] at hmb
              have hrec := IH.out (list ++ [(c : Int)]) mu (d2.setIfInBounds list.length (c : Int)) _ (by rw [hlen10]; omega) hmb.1 hmb.2 hR.2 (fun j x hx => sw_far hR.1 hne (HS.out j x hx))
              rw [hmu] at hA4
              rw [hlen10] at hrec
              have HR9 := Aside0.mk hR
              have HF := Aside0.mk (And.intro hlt (And.intro hc (And.intro hgg (And.intro hm2 hm))))
              clear hR hH9 hlen9 hsz9 hmu hlen10 hmb hlt hc hgg hm2 hm hd hu0 hu1 hl hc0 hc1 hne HS IH HMM hgg2 hi hie
              cases hG : colG sets count d (list ++ [(c : Int)]) mu with
              | some r =>
                rw [hG] at hrec hA4
                have HREC := Aside0.mk hrec
                have HA4 := Aside0.mk hA4
                clear hrec hA4 hG
                go_wp2_with (first | (at_builtin; refine wpList_app_run rfl _ _ 26 rfl (.slice (some ⟨B, 0, none⟩) list.length sets.length) (.slice (some ⟨(w1.drewN q).heap.size, 0, none⟩) 1 1) _ _ (by rfl) (by rfl) app ?_) | (go_at_call 108; refine HREC.out.mono ?_; rintro e w9 ⟨rfl, d4, hsw4, hs4, hp4, hr4⟩; have H10 := Aside0.mk (And.intro hsw4 (And.intro hs4 (And.intro hp4 hr4))); clear hsw4 hs4 hp4 hr4))
                go_ret
                have h10 := H10.out
                refine ⟨by rw [HA4.out]; rfl, d4, sw_trans HR9.out.1 HH.out.lt h10.1 (by rw [h10.2.1, Array.size_setIfInBounds]; exact hA.out.2.1.symm), h10.2.1, pre_left h10.2.2.1, fun r2 hr2 => ?_⟩
                rw [HA4.out] at hr2
                cases hr2
                exact h10.2.2.2 r rfl
              | none =>
                rw [hG] at hrec hA4
                have HREC := Aside0.mk hrec
                have HA4 := Aside0.mk hA4
                clear hrec hA4 hG
                go_wp2_with (first | (at_builtin; refine wpList_app_run rfl _ _ 26 rfl (.slice (some ⟨B, 0, none⟩) list.length sets.length) (.slice (some ⟨(w1.drewN q).heap.size, 0, none⟩) 1 1) _ _ (by rfl) (by rfl) app ?_) | (go_at_call 108; refine HREC.out.mono ?_; rintro e w9 ⟨rfl, d4, hsw4, hs4, hp4, hr4⟩; have H10 := Aside0.mk (And.intro hsw4 (And.intro hs4 (And.intro hp4 hr4))); clear hsw4 hs4 hp4 hr4))
                go_roundg (m - (c + 1))
                case measure => have := HF.out; omega
                case rel =>
                  have h10 := H10.out
                  exact ⟨c + 1, d4, by first | rfl | rw [hnext], HF.out.1, Nat.le_refl _, Aside0.mk ⟨sw_trans HR9.out.1 HH.out.lt h10.1 (by rw [h10.2.1, Array.size_setIfInBounds]; exact hA.out.2.1.symm), h10.2.1, pre_left h10.2.2.1, by rw [HCAST.out]; exact HA4.out⟩⟩
      · have hcm : c = m := by omega
        have hltz : ¬ (c : Int) < (m : Int) := by omega
        have hA4 := hA.out.2.2.2
        rw [hcm, Nat.sub_self] at hA4
        have HA4 := Aside0.mk hA4
        clear hA4 hq hw1 hif hm hm2 hl hc0 hc1 hne HS IH HMM hd hu0 hu1 hcm hc hgg
        go_wp2
        go_ret
        have h11 : colG sets count (d + 1) list used = none := HA4.out
        refine ⟨by rw [h11]; rfl, d2, hA.out.1, hA.out.2.1, hA.out.2.2.1, fun r hr => ?_⟩
        rw [h11] at hr
        cases hr
end Go.Proofs.YtemgnbpcchlpiaaOwn
