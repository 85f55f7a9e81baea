/- Necklaces: the least fair cuts are at most as many as the kinds; how the program and the reference find them. -/
import Derived.Test.YtmbkkhpjcblijaaDoorQFnExactFewestCutsSplits
import Derived.Test.YtmbkkhpjcblijaaDoorQFnExactFewestCutsNeck
namespace Go.Proofs.YtmbkkhpjcblijaaDoor.QFnExactFewestCuts
open Go.RowKit Go.Proofs.YtmbkkhpjcblijaaDoor.PFnExactFewestCuts Go.Proofs.YtmbkkhpjcblijaaDoorW.PrintWords Go.Proofs.YtmbkkhpjcblijaaDoorW.PrintLast Go.Proofs.YtmbkkhpjcblijaaDoorW.PrintMore
set_option linter.unusedVariables false
set_option linter.unusedSimpArgs false
set_option maxRecDepth 100000
/-! ### cuts out of signs -/
/-- The places, of d from u on, at which the sign is another one than ahead. -/
def cf (y : Nat → Int) : Nat → Nat → List Int
  | 0, _ => []
  | d + 1, u => if y u = y (u - 1) then cf y d (u + 1) else (u : Int) :: cf y d (u + 1)
theorem cf_len (y : Nat → Int) (n : Nat) (hy : ∀ u, u < n → y u = 1 ∨ y u = -1) : ∀ d u, 1 ≤ u → u + d = n → (cf y d u).length = Neck.ac y d u (y (u - 1))
  | 0, _, _, _ => rfl
  | d + 1, u, h1, h2 => by
    have h3 := hy u (by omega)
    have ih := cf_len y n hy d (u + 1) (by omega) (by omega)
    rw [Nat.add_sub_cancel] at ih
    unfold cf Neck.ac
    by_cases e : y u = y (u - 1)
    · rw [if_pos e, if_pos (.inr e), ih, e]
    · rw [if_neg e, if_neg (by omega), List.length_cons, ih]
theorem cf_mem (y : Nat → Int) (j : Nat) : ∀ d u, (j : Int) ∈ cf y d u ↔ u ≤ j ∧ j < u + d ∧ y j ≠ y (j - 1)
  | 0, u => by
    constructor
    · intro h; cases h
    · rintro ⟨h1, h2, _⟩; omega
  | d + 1, u => by
    have ih := cf_mem y j d (u + 1)
    unfold cf
    by_cases e : y u = y (u - 1)
    · rw [if_pos e, ih]
      constructor
      · rintro ⟨h1, h2, h3⟩; exact ⟨by omega, by omega, h3⟩
      · rintro ⟨h1, h2, h3⟩
        refine ⟨?_, by omega, h3⟩
        rcases Nat.lt_or_ge u j with h4 | h4
        · exact h4
        · have : u = j := by omega
          subst this
          exact absurd e h3
    · rw [if_neg e, List.mem_cons, ih]
      constructor
      · rintro (h | ⟨h1, h2, h3⟩)
        · have : j = u := by omega
          subst this
          exact ⟨Nat.le_refl _, by omega, e⟩
        · exact ⟨by omega, by omega, h3⟩
      · rintro ⟨h1, h2, h3⟩
        rcases Nat.lt_or_ge u j with h4 | h4
        · exact .inr ⟨h4, by omega, h3⟩
        · exact .inl (by omega)
theorem ch_sub {n m a : Nat} (ha : a < n) {r : List Int} (h : r ∈ ch n m (a + 1)) : r ∈ ch n m a := by
  cases m with
  | zero => exact h
  | succ m =>
    unfold ch at h ⊢
    rw [show n - a = (n - (a + 1)) + 1 by omega]
    unfold chFrom
    exact List.mem_append_right _ h
theorem cf_ch (y : Nat → Int) (n : Nat) : ∀ d u, u + d = n → cf y d u ∈ ch n (cf y d u).length u
  | 0, u, _ => List.mem_singleton.2 rfl
  | d + 1, u, h => by
    have ih := cf_ch y n d (u + 1) (by omega)
    unfold cf
    by_cases e : y u = y (u - 1)
    · rw [if_pos e]
      exact ch_sub (by omega) ih
    · rw [if_neg e, List.length_cons]
      unfold ch
      rw [show n - u = (n - (u + 1)) + 1 by omega]
      unfold chFrom
      exact List.mem_append_left _ (List.mem_map.2 ⟨_, ih, rfl⟩)
theorem among_mem (l : List Int) (x : Int) : ∀ d i, i + d = l.length → (among l x d i = true ↔ x ∈ l.drop i)
  | 0, i, h => by rw [List.drop_eq_nil_of_le (by omega)]; simp [among]
  | d + 1, i, h => by
    have hl : i < l.length := by omega
    have e : rd l (i : Int) = l[i] := by rw [rd_nat, List.getD_eq_getElem?_getD, List.getElem?_eq_getElem hl]; rfl
    rw [List.drop_eq_getElem_cons hl, List.mem_cons]
    unfold among
    rw [e]
    by_cases c : l[i] = x
    · rw [if_pos c]; simp [c]
    · rw [if_neg c, among_mem l x d (i + 1) (by omega)]
      exact ⟨fun h => .inr h, fun h => h.resolve_left (fun z => c z.symm)⟩
theorem signs_of (y : Nat → Int) (n : Nat) (hy : ∀ u, u < n → y u = 1 ∨ y u = -1) (l : List Int) (hl : ∀ j : Nat, 1 ≤ j → j < n → ((j : Int) ∈ l ↔ y j ≠ y (j - 1))) : ∀ d i, 1 ≤ i → i + d = n → ∀ j, j < d → rd (signsFn l d i (y (i - 1))) (j : Int) = y (i + j)
  | 0, _, _, _, j, hj => by omega
  | d + 1, i, h1, h2, j, hj => by
    have h3 := hl i h1 (by omega)
    have ha := among_mem l (i : Int) l.length 0 (by omega)
    rw [List.drop_zero] at ha
    have hyi := hy i (by omega)
    have hyp := hy (i - 1) (by omega)
    have ih := signs_of y n hy l hl d (i + 1) (by omega) (by omega)
    rw [Nat.add_sub_cancel] at ih
    have key : ∀ r, r = y i → ∀ j, j < d + 1 → rd (r :: signsFn l d (i + 1) r) (j : Int) = y (i + j) := fun r hr j hj => by
      subst hr
      cases j with
      | zero => rfl
      | succ j =>
        have := ih j (by omega)
        rw [show i + (j + 1) = i + 1 + j by omega, ← this]
        rw [rd_nat, rd_nat]
        rfl
    unfold signsFn
    by_cases c : among l (i : Int) l.length 0 = true
    · rw [if_pos c]
      have := h3.1 (ha.1 c)
      exact key (-y (i - 1)) (by omega) j hj
    · rw [if_neg c]
      have : y i = y (i - 1) := Classical.byContradiction (fun z => c (ha.2 (h3.2 z)))
      exact key (y (i - 1)) this.symm j hj
/-! ### the kinds of a necklace -/
def kd (bs : List UInt8) (u : Nat) : Nat := (bs.getD u 0).toNat
theorem kd_at {bs : List UInt8} {u : Nat} (h : u < bs.length) : kd bs u = (bs[u]).toNat := by unfold kd; rw [List.getD_eq_getElem?_getD, List.getElem?_eq_getElem h]; rfl
theorem T_cn (bs : List UInt8) (v : Nat) : ∀ m, m ≤ bs.length → (Neck.T (kd bs) m v : Int) = cn v (bs.take m)
  | 0, _ => rfl
  | m + 1, h => by
    have ih := T_cn bs v m (by omega)
    have e : bs.take (m + 1) = bs.take m ++ [bs[m]] := by rw [List.take_succ_eq_append_getElem (by omega)]
    rw [e, cn_snoc, ← ih, ← kd_at (show m < bs.length by omega)]
    unfold Neck.T
    show ((Neck.ct _ m + if (kd bs m == v) = true then 1 else 0 : Nat) : Int) = _
    by_cases c : kd bs m = v
    · rw [if_pos (beq_iff_eq.2 c), if_pos c]; omega
    · rw [if_neg (fun z => c (beq_iff_eq.1 z)), if_neg c]; omega
theorem mine_cn (bs : List UInt8) (y : Nat → Int) (sg : List Int) (v : Nat) (hs : ∀ j, j < bs.length → rd sg (j : Int) = y j) : ∀ m, m ≤ bs.length → cn v (mine bs sg m) = (Neck.P (kd bs) y m v : Int)
  | 0, _ => rfl
  | m + 1, h => by
    have hlt : m < bs.length := by omega
    have ih := mine_cn bs y sg v hs m (by omega)
    have hg : bs[m]? = some bs[m] := List.getElem?_eq_getElem hlt
    have e : (Neck.P (kd bs) y (m + 1) v : Int) = (Neck.P (kd bs) y m v : Int) + (if (kd bs m == v && y m == 1) = true then 1 else 0) := by
      unfold Neck.P
      show ((Neck.ct _ m + if (kd bs m == v && y m == 1) = true then 1 else 0 : Nat) : Int) = _
      split <;> omega
    rw [e, ← ih]
    by_cases c : y m = 1
    · rw [mine_some hg (by rw [hs m hlt]; exact c), cn_snoc, kd_at hlt, c]
      by_cases c2 : (bs[m]).toNat = v
      · rw [if_pos c2, if_pos (by rw [beq_iff_eq.2 c2]; rfl)]
      · rw [if_neg c2, if_neg (by rw [beq_eq_false_iff_ne.2 c2]; decide)]
    · rw [mine_none (by rw [hs m hlt]; exact c), if_neg (by rw [beq_eq_false_iff_ne.2 c, Bool.and_false]; decide), Int.add_zero]
/-- The kinds that are there. -/
def kin (bs : List UInt8) : List Nat := [97, 98, 99, 100].filter fun v => decide (0 < cn v bs)
theorem kin_le (bs : List UInt8) : (kin bs).length ≤ 4 := by
  unfold kin
  exact Nat.le_trans (List.length_filter_le _ _) (by decide)
def evens (bs : List UInt8) : Bool := decide (cn 97 bs % 2 = 0) && decide (cn 98 bs % 2 = 0) && decide (cn 99 bs % 2 = 0) && decide (cn 100 bs % 2 = 0)
theorem evens_at {bs : List UInt8} (h : evens bs = true) {v : Nat} (hv : v = 97 ∨ v = 98 ∨ v = 99 ∨ v = 100) : cn v bs % 2 = 0 := by
  unfold evens at h
  simp only [Bool.and_eq_true, decide_eq_true_eq] at h
  rcases hv with rfl | rfl | rfl | rfl
  · exact h.1.1.1
  · exact h.1.1.2
  · exact h.1.2
  · exact h.2
theorem kin_mem {bs : List UInt8} {v : Nat} : v ∈ kin bs ↔ (v = 97 ∨ v = 98 ∨ v = 99 ∨ v = 100) ∧ 0 < cn v bs := by
  unfold kin
  rw [List.mem_filter, decide_eq_true_eq]
  simp
theorem twice_of {a b : List Int} (h : ∀ i : Nat, i < 4 → 2 * rd a (i : Int) = rd b (i : Int)) : twice a b 4 0 = true := by
  have h0 := h 0 (by decide)
  have h1 := h 1 (by decide)
  have h2 := h 2 (by decide)
  have h3 := h 3 (by decide)
  simp only [twice]
  rw [if_pos h0, if_pos h1, if_pos h2, if_pos h3]
theorem twice_at {a b : List Int} (h : twice a b 4 0 = true) (i : Nat) (hi : i < 4) : 2 * rd a (i : Int) = rd b (i : Int) := by
  simp only [twice] at h
  split at h
  · split at h
    · split at h
      · split at h
        · match i with
          | 0 => assumption
          | 1 => assumption
          | 2 => assumption
          | 3 => assumption
          | n + 4 => omega
        · cases h
      · cases h
    · cases h
  · cases h
theorem rd_cnt (bs : List UInt8) : rd (cntL bs) ((0 : Nat) : Int) = cn 97 bs ∧ rd (cntL bs) ((1 : Nat) : Int) = cn 98 bs ∧ rd (cntL bs) ((2 : Nat) : Int) = cn 99 bs ∧ rd (cntL bs) ((3 : Nat) : Int) = cn 100 bs := ⟨rfl, rfl, rfl, rfl⟩
/-- Even numbers of all kinds: there are fair cuts, at most as many as kinds. -/
theorem fair_some (s : ByteArray) (hb : beads s = true) (hs : s.size ≤ 16) (he : evens s.data.toList = true) : ∃ m, m ≤ (kin s.data.toList).length ∧ ∃ r, r ∈ ch s.size m 1 ∧ fairOf s r = true := by
  have hlen := size_list s
  generalize hbs : s.data.toList = bs at *
  have hkind : ∀ u, u < bs.length → kd bs u = 97 ∨ kd bs u = 98 ∨ kd bs u = 99 ∨ kd bs u = 100 := fun u hu => by
    rw [kd_at hu]
    have : isBead bs[u] = true := by
      unfold beads at hb
      rw [hbs] at hb
      exact List.all_eq_true.1 hb _ (List.getElem_mem hu)
    exact kind_cases this
  have hTn : ∀ v, (Neck.T (kd bs) bs.length v : Int) = cn v bs := fun v => by rw [T_cn bs v bs.length (Nat.le_refl _), List.take_length]
  have hpos : ∀ u, u < bs.length → 0 < cn (kd bs u) bs := fun u hu => by
    rw [← hTn]
    have := Neck.ct_one (f := fun _ => false) (g := fun v => decide (v = u)) bs.length u hu (fun v _ hv => (decide_eq_false hv).symm) rfl (decide_eq_true rfl)
    have h3 : Neck.ct (fun v => decide (v = u)) bs.length ≤ Neck.T (kd bs) bs.length (kd bs u) := Neck.ct_mono bs.length (fun v _ hv => by
      have : v = u := of_decide_eq_true hv
      subst this
      exact beq_iff_eq.2 rfl)
    omega
  rcases Nat.eq_zero_or_pos bs.length with h0 | h0
  · refine ⟨0, Nat.zero_le _, [], List.mem_singleton.2 rfl, ?_⟩
    have : bs = [] := List.eq_nil_of_length_eq_zero h0
    subst this
    unfold fairOf shareL
    rw [hbs, ← hlen, h0]
    decide
  · -- more beads than kinds
    have hmore : (kin bs).length + 1 ≤ bs.length := by
      have hsum : ∀ l : List UInt8, (∀ b ∈ l, isBead b = true) → cn 97 l + cn 98 l + cn 99 l + cn 100 l = l.length := fun l => by
        induction l with
        | nil => intro _; rfl
        | cons b l ih =>
          intro h
          have ih := ih (fun x hx => h x (List.mem_cons_of_mem _ hx))
          have hk := kind_cases (h b List.mem_cons_self)
          have e : ∀ v, cn v (b :: l) = cn v l + (if b.toNat = v then 1 else 0) := fun v => by
            unfold cn
            rw [List.countP_cons]
            by_cases c : b.toNat = v
            · rw [if_pos c, if_pos (decide_eq_true c)]; omega
            · rw [if_neg c, if_neg (by rw [decide_eq_false c]; decide)]; omega
          rw [e, e, e, e, List.length_cons]
          rcases hk with h | h | h | h <;> rw [h] <;> simp <;> omega
      have hall : ∀ b ∈ bs, isBead b = true := by
        unfold beads at hb
        rw [hbs] at hb
        exact List.all_eq_true.1 hb
      have h1 := hsum bs hall
      have e1 := evens_at he (v := 97) (by decide)
      have e2 := evens_at he (v := 98) (by decide)
      have e3 := evens_at he (v := 99) (by decide)
      have e4 := evens_at he (v := 100) (by decide)
      have p1 := (cn_le 97 bs).1
      have p2 := (cn_le 98 bs).1
      have p3 := (cn_le 99 bs).1
      have p4 := (cn_le 100 bs).1
      unfold kin
      simp only [List.filter_cons, List.filter_nil]
      by_cases c1 : 0 < cn 97 bs <;> by_cases c2 : 0 < cn 98 bs <;> by_cases c3 : 0 < cn 99 bs <;> by_cases c4 : 0 < cn 100 bs <;> simp only [c1, c2, c3, c4, decide_true, decide_false, if_true, if_false, Bool.false_eq_true, List.length_cons, List.length_nil] <;> omega
    obtain ⟨y, hy1, hy2, hy3⟩ := Neck.necklace (kd bs) (fun v => Neck.T (kd bs) bs.length v / 2) bs.length (kin bs) (fun u hu => kin_mem.2 ⟨hkind u hu, hpos u hu⟩) (fun v hv => by
      have h1 := evens_at he (kin_mem.1 hv).1
      have h2 := hTn v
      omega) hmore
    -- the first bead is the first thief's
    obtain ⟨y, hy0, hy1, hy2, hy3⟩ : ∃ y : Nat → Int, y 0 = 1 ∧ (∀ u, u < bs.length → y u = 1 ∨ y u = -1) ∧ Neck.ac y bs.length 0 0 ≤ (kin bs).length + 1 ∧ ∀ u, u < bs.length → Neck.P (kd bs) y bs.length (kd bs u) = Neck.T (kd bs) bs.length (kd bs u) / 2 := by
      rcases hy1 0 h0 with h | h
      · exact ⟨y, h, hy1, hy2, fun u hu => (hy3 u hu).1⟩
      · refine ⟨fun u => -y u, by show -y 0 = 1; omega, fun u hu => by have := hy1 u hu; show -y u = 1 ∨ -y u = -1; omega, ?_, fun u hu => by rw [Neck.P_neg]; exact (hy3 u hu).2⟩
        have := Neck.ac_neg y bs.length 0 0
        rw [show (-(0 : Int)) = 0 from rfl] at this
        rw [this]; exact hy2
    obtain ⟨d, hd⟩ : ∃ d, bs.length = d + 1 := ⟨bs.length - 1, by omega⟩
    have hcl := cf_len y bs.length hy1 d 1 (Nat.le_refl _) (by omega)
    have hac : Neck.ac y bs.length 0 0 = Neck.ac y d 1 (y 0) + 1 := by
      rw [hd]
      show (if y 0 = 0 ∨ y 0 = 0 then _ else _) = _
      rw [if_neg (by omega)]
    refine ⟨(cf y d 1).length, by rw [hcl]; show Neck.ac y d 1 (y 0) ≤ _; omega, cf y d 1, ?_, ?_⟩
    · rw [← hlen]
      exact cf_ch y bs.length d 1 (by omega)
    · -- the signs of the cuts
      have hin : ∀ j : Nat, 1 ≤ j → j < bs.length → ((j : Int) ∈ cf y d 1 ↔ y j ≠ y (j - 1)) := fun j h1 h2 => by
        rw [cf_mem]
        exact ⟨fun h => h.2.2, fun h => ⟨h1, by omega, h⟩⟩
      have hsg : ∀ j, j < bs.length → rd (signsFn (cf y d 1) s.size 0 1) (j : Int) = y j := fun j hj => by
        rw [← hlen, hd]
        have h00 : ¬ among (cf y d 1) ((0 : Nat) : Int) (cf y d 1).length 0 = true := fun h => by
          have := (among_mem (cf y d 1) ((0 : Nat) : Int) (cf y d 1).length 0 (by omega)).1 h
          rw [List.drop_zero] at this
          have := (cf_mem y 0 d 1).1 this
          omega
        unfold signsFn
        rw [if_neg h00]
        cases j with
        | zero => rw [hy0]; rfl
        | succ j =>
          have := signs_of y bs.length hy1 (cf y d 1) hin d 1 (Nat.le_refl _) (by omega) j (by omega)
          rw [show y (1 - 1) = 1 from hy0] at this
          rw [show j + 1 = 1 + j by omega, ← this, rd_nat, rd_nat, Nat.add_comm 1 j]
          rfl
      have hmine : ∀ v, cn v (mine bs (signsFn (cf y d 1) s.size 0 1) s.size) = (Neck.P (kd bs) y bs.length v : Int) := fun v => by
        rw [← hlen]
        rw [← hlen] at hsg
        exact mine_cn bs y _ v hsg bs.length (Nat.le_refl _)
      have hfin : ∀ v, (v = 97 ∨ v = 98 ∨ v = 99 ∨ v = 100) → 2 * (Neck.P (kd bs) y bs.length v : Int) = cn v bs := fun v hv => by
        by_cases c : 0 < cn v bs
        · obtain ⟨u, hu, e⟩ : ∃ u, u < bs.length ∧ kd bs u = v := by
            have hc : 0 < bs.countP fun b => decide (b.toNat = v) := by unfold cn at c; omega
            obtain ⟨b, hb1, hb2⟩ := List.countP_pos_iff.1 hc
            obtain ⟨u, hu, e⟩ := List.getElem_of_mem hb1
            exact ⟨u, hu, by rw [kd_at hu, e]; exact of_decide_eq_true hb2⟩
          have h1 := hy3 u hu
          rw [e] at h1
          have h2 := hTn v
          have h3 := evens_at he hv
          omega
        · have h1 : Neck.P (kd bs) y bs.length v ≤ Neck.T (kd bs) bs.length v := Neck.ct_mono _ (fun u _ hu => (Bool.and_eq_true_iff.1 hu).1)
          have h2 := hTn v
          have h3 := (cn_le v bs).1
          omega
      unfold fairOf shareL
      rw [hbs]
      refine twice_of (fun i hi => ?_)
      have r1 := rd_cnt (mine bs (signsFn (cf y d 1) s.size 0 1) s.size)
      have r2 := rd_cnt bs
      match i with
      | 0 => rw [r1.1, r2.1, hmine]; exact hfin 97 (by decide)
      | 1 => rw [r1.2.1, r2.2.1, hmine]; exact hfin 98 (by decide)
      | 2 => rw [r1.2.2.1, r2.2.2.1, hmine]; exact hfin 99 (by decide)
      | 3 => rw [r1.2.2.2, r2.2.2.2, hmine]; exact hfin 100 (by decide)
      | n + 4 => omega
theorem fair_evens {s : ByteArray} {r : List Int} (h : fairOf s r = true) : evens s.data.toList = true := by
  unfold fairOf at h
  have r2 := rd_cnt s.data.toList
  have h0 := twice_at h 0 (by decide)
  have h1 := twice_at h 1 (by decide)
  have h2 := twice_at h 2 (by decide)
  have h3 := twice_at h 3 (by decide)
  rw [r2.1] at h0
  rw [r2.2.1] at h1
  rw [r2.2.2.1] at h2
  rw [r2.2.2.2] at h3
  unfold evens
  rw [decide_eq_true (show cn 97 s.data.toList % 2 = 0 by omega), decide_eq_true (show cn 98 s.data.toList % 2 = 0 by omega), decide_eq_true (show cn 99 s.data.toList % 2 = 0 by omega), decide_eq_true (show cn 100 s.data.toList % 2 = 0 by omega)]
  rfl
/-! ### the searches -/
def fl (s : ByteArray) (m : Nat) : List (List Int) := (ch s.size m 1).filter (fairOf s)
/-- The first fair list with the fewest cuts, of d numbers of cuts from m on. -/
def lst (F : Nat → List (List Int)) : Nat → Nat → Option (List Int)
  | 0, _ => none
  | d + 1, m => match F m with
    | [] => lst F d (m + 1)
    | r :: _ => some r
theorem lst_none (F : Nat → List (List Int)) (h : ∀ m, F m = []) : ∀ d m, lst F d m = none
  | 0, _ => rfl
  | d + 1, m => by unfold lst; rw [h m]; exact lst_none F h d (m + 1)
theorem lst_some (F : Nat → List (List Int)) (n : Nat) (hn : F n ≠ []) : ∀ d m, m ≤ n → n < m + d → ∃ r, lst F d m = some r
  | 0, m, h1, h2 => by omega
  | d + 1, m, h1, h2 => by
    unfold lst
    cases hf : F m with
    | cons r q => exact ⟨r, rfl⟩
    | nil =>
      rcases Nat.lt_or_ge m n with h3 | h3
      · exact lst_some F n hn d (m + 1) h3 (by omega)
      · have : m = n := by omega
        subst this
        exact absurd hf hn
/-- What is found is fair, of as few cuts as there can be. -/
theorem lst_at (F : Nat → List (List Int)) (r : List Int) : ∀ d m, lst F d m = some r → ∃ j, m ≤ j ∧ j < m + d ∧ r ∈ F j ∧ ∀ i, m ≤ i → i < j → F i = []
  | 0, _, h => by cases h
  | d + 1, m, h => by
    unfold lst at h
    cases hf : F m with
    | cons x q =>
      rw [hf] at h
      have : x = r := Option.some.inj h
      subst this
      exact ⟨m, Nat.le_refl _, by omega, by rw [hf]; exact List.mem_cons_self, fun i h1 h2 => by omega⟩
    | nil =>
      rw [hf] at h
      obtain ⟨j, h1, h2, h3, h4⟩ := lst_at F r d (m + 1) h
      refine ⟨j, by omega, by omega, h3, fun i h5 h6 => ?_⟩
      rcases Nat.lt_or_ge m i with h7 | h7
      · exact h4 i h7 h6
      · have : i = m := by omega
        rw [this, hf]
def told (o : Option (List Int)) : List Int × Bool := match o with
  | some r => (r, true)
  | none => ([], false)
theorem least_loop (s : ByteArray) (hb : beads s = true) (hs : s.size ≤ 16) : ∀ d m : Nat, m + d = 5 → Ev (fun k => impl_leastSplit.l0 k s (m : Int)) (told (lst (fl s) d m))
  | 0, m, h => Ev.step (fun f => impl_leastSplit.l0.eq_2 ..) (ev_neg (by omega) (Ev.now _))
  | d + 1, m, h => by
    refine Ev.step (fun f => impl_leastSplit.l0.eq_2 ..) (ev_pos (by omega) (Ev.bind (fairCuts_ev s hb hs m (by omega)) ?_))
    have ih := least_loop s hb hs d (m + 1) (by omega)
    have hw : wrap64 ((m : Int) + 1) = ((m + 1 : Nat) : Int) := by rw [wr (by omega) (by omega)]; omega
    rw [hw]
    unfold lst
    cases hf : fl s m with
    | nil =>
      have hf : (ch s.size m 1).filter (fairOf s) = [] := hf
      rw [hf]
      exact ev_neg (by simp) ih
    | cons r q =>
      have hf : (ch s.size m 1).filter (fairOf s) = r :: q := hf
      rw [hf]
      exact ev_pos (by simp) (Ev.now _)
theorem leastSplit_ev (s : ByteArray) (hb : beads s = true) (hs : s.size ≤ 16) : Ev (fun k => impl_leastSplit.f k s) (told (lst (fl s) 5 0)) := least_loop s hb hs 5 0 rfl
theorem first_loop (s : ByteArray) (hb : beads s = true) (hs : s.size ≤ 16) (r : List Int) : ∀ d m : Nat, m + d = 5 → lst (fl s) d m = some r → Ev (fun k => spec_nlFirst.l0 k s (m : Int)) r
  | 0, m, h, hl => by cases hl
  | d + 1, m, h, hl => by
    have h1 := splits_ev s hb hs m (by omega) [] 1 (.inl ⟨rfl, rfl⟩) (by omega) (by simp; omega)
    have e3 : (ch s.size m 1).map (fun r => ([] : List Int) ++ r) = ch s.size m 1 := by simp
    rw [e3] at h1
    refine Ev.step (fun f => spec_nlFirst.l0.eq_2 ..) (Ev.bind h1 ?_)
    have hw : wrap64 ((m : Int) + 1) = ((m + 1 : Nat) : Int) := by rw [wr (by omega) (by omega)]; omega
    rw [hw]
    unfold lst at hl
    cases hf : fl s m with
    | nil =>
      rw [hf] at hl
      have hf : (ch s.size m 1).filter (fairOf s) = [] := hf
      refine ev_neg ?_ (first_loop s hb hs r d (m + 1) (by omega) hl)
      unfold sp
      rw [hf]; simp
    | cons x q =>
      rw [hf] at hl
      have hf : (ch s.size m 1).filter (fairOf s) = x :: q := hf
      have : x = r := Option.some.inj hl
      subst this
      refine ev_pos ?_ (ev_eq (Ev.now _) ?_)
      · unfold sp; rw [hf]; simp
      · unfold sp; rw [hf]; rfl
theorem even_tail (l : List Int) (h4 : l.length = 4) (h0 : ∀ i : Nat, 0 ≤ rd l (i : Int)) : ∀ d i : Nat, i + d = 4 → Ev (fun k => spec_nlEven.l0 k l (l.length : Int) (i : Int)) ((List.range' i d).all fun j => decide (rd l (j : Int) % 2 = 0))
  | 0, i, h => Ev.step (fun f => spec_nlEven.l0.eq_2 ..) (ev_neg (by omega) (Ev.now _))
  | d + 1, i, h => by
    have h1 := h0 i
    refine Ev.step (fun f => spec_nlEven.l0.eq_2 ..) (ev_pos (by omega) (ev_pos (by omega) (ev_pos (by omega) ?_)))
    rw [Int.tmod_eq_emod_of_nonneg h1, wr (show -9223372036854775808 ≤ (i : Int) + 1 by omega) (by omega), List.range'_succ, List.all_cons]
    by_cases hc : (rd l (i : Int)) % 2 = 1
    · rw [decide_eq_false (by omega), Bool.false_and]; exact ev_pos hc (Ev.now _)
    · rw [decide_eq_true (by omega), Bool.true_and]; exact ev_neg hc (even_tail l h4 h0 d (i + 1) (by omega))
theorem nlEven_ev (s : ByteArray) (hb : beads s = true) (hs : s.size ≤ 16) : Ev (fun k => spec_nlEven.f k s) (evens s.data.toList) := by
  refine Ev.bind (nlCounts_ev s hb (by omega)) (ev_eq (even_tail _ (cntL_len _) (fun i => (cntL_le s.data.toList i).1) 4 0 rfl) ?_)
  have r := rd_cnt s.data.toList
  show (decide (rd (cntL s.data.toList) ((0 : Nat) : Int) % 2 = 0) && (decide (rd (cntL s.data.toList) ((1 : Nat) : Int) % 2 = 0) && (decide (rd (cntL s.data.toList) ((2 : Nat) : Int) % 2 = 0) && (decide (rd (cntL s.data.toList) ((3 : Nat) : Int) % 2 = 0) && true)))) = _
  rw [r.1, r.2.1, r.2.2.1, r.2.2.2]
  unfold evens
  simp only [Bool.and_true, Bool.and_assoc]
theorem fl_some (s : ByteArray) (hb : beads s = true) (hs : s.size ≤ 16) (he : evens s.data.toList = true) : ∃ r, lst (fl s) 5 0 = some r := by
  obtain ⟨m, hm, r, hr, hf⟩ := fair_some s hb hs he
  have := kin_le s.data.toList
  refine lst_some (fl s) m (fun z => ?_) 5 0 (Nat.zero_le _) (by omega)
  have : r ∈ fl s m := List.mem_filter.2 ⟨hr, hf⟩
  rw [z] at this
  cases this
theorem fl_none (s : ByteArray) (he : evens s.data.toList = false) : lst (fl s) 5 0 = none := lst_none _ (fun m => by
  unfold fl
  refine List.filter_eq_nil_iff.2 (fun r _ hf => ?_)
  rw [fair_evens hf] at he
  cases he) 5 0
theorem lst_len (s : ByteArray) (r : List Int) (h : lst (fl s) 5 0 = some r) : r.length ≤ 4 := by
  obtain ⟨j, h1, h2, h3, _⟩ := lst_at (fl s) r 5 0 h
  have := ch_mem s.size j 1 r (List.mem_filter.1 h3).1
  omega
end Go.Proofs.YtmbkkhpjcblijaaDoor.QFnExactFewestCuts
