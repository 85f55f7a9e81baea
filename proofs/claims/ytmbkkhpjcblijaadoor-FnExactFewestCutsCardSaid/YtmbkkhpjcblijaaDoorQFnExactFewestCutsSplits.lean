/- Necklaces: all lists of cuts, as the program lays them out and as the reference counts them. -/
import Derived.Test.YtmbkkhpjcblijaaDoorQFnExactFewestCutsFair
namespace Go.Proofs.YtmbkkhpjcblijaaDoor.QFnExactFewestCuts
open Go.RowKit Go.Proofs.YtmbkkhpjcblijaaDoor.PFnExactFewestCuts Go.Proofs.YtmbkkhpjcblijaaDoorW.PrintWords Go.Proofs.YtmbkkhpjcblijaaDoorW.PrintLast Go.Proofs.YtmbkkhpjcblijaaDoorW.PrintMore
set_option linter.unusedVariables false
set_option linter.unusedSimpArgs false
set_option maxRecDepth 100000
/-- For d numbers from x on: the lists that begin with the number and go on as g says. -/
def chFrom (g : Nat → List (List Int)) : Nat → Nat → List (List Int)
  | 0, _ => []
  | d + 1, x => ((g (x + 1)).map fun r => (x : Int) :: r) ++ chFrom g d (x + 1)
/-- All rising lists of m numbers from a on, below n. -/
def ch (n : Nat) : Nat → Nat → List (List Int)
  | 0, _ => [[]]
  | m + 1, a => chFrom (ch n m) (n - a) a
theorem chFrom_len (g : Nat → List (List Int)) (B : Nat) (h : ∀ x, (g x).length ≤ B) : ∀ d x, (chFrom g d x).length ≤ d * B
  | 0, x => by simp [chFrom]
  | d + 1, x => by
    have ih := chFrom_len g B h d (x + 1)
    have h1 := h (x + 1)
    unfold chFrom
    rw [List.length_append, List.length_map, Nat.add_mul, Nat.one_mul]
    omega
theorem ch_len (n : Nat) (hn : n ≤ 16) : ∀ m a, (ch n m a).length ≤ 16 ^ m
  | 0, a => by simp [ch]
  | m + 1, a => by
    have := chFrom_len (ch n m) (16 ^ m) (ch_len n hn m) (n - a) a
    unfold ch
    rw [Nat.pow_succ]
    refine Nat.le_trans this ?_
    rw [Nat.mul_comm]
    exact Nat.mul_le_mul_left _ (by omega)
theorem ch_len3 (n : Nat) (hn : n ≤ 16) (m a : Nat) (hm : m ≤ 3) : (ch n m a).length ≤ 4096 := by
  have h1 := ch_len n hn m a
  have h2 : 16 ^ m ≤ 16 ^ 3 := Nat.pow_le_pow_right (by omega) hm
  omega
theorem chFrom_mem {g : Nat → List (List Int)} {m : Nat} (h : ∀ x r, r ∈ g x → r.length = m) : ∀ d x r, r ∈ chFrom g d x → r.length = m + 1
  | 0, x, r, hr => by simp [chFrom] at hr
  | d + 1, x, r, hr => by
    unfold chFrom at hr
    rcases List.mem_append.1 hr with h1 | h1
    · obtain ⟨q, hq, rfl⟩ := List.mem_map.1 h1
      rw [List.length_cons, h _ _ hq]
    · exact chFrom_mem h d (x + 1) r h1
theorem ch_mem (n : Nat) : ∀ m a r, r ∈ ch n m a → r.length = m
  | 0, a, r, h => by simp [ch] at h; rw [h]; rfl
  | m + 1, a, r, h => chFrom_mem (ch_mem n m) _ _ r h
theorem rdL_at {T : List (List Int)} {j : Nat} (h : j < T.length) : rd_L1 T (j : Int) = T[j] := by
  unfold rd_L1
  rw [Int.toNat_natCast, List.getD_eq_getElem?_getD, List.getElem?_eq_getElem h]
  rfl
theorem l1_loop (n m : Nat) (T : List (List Int)) (hTl : T.length ≤ 100000) (hT : ∀ r ∈ T, r.length ≤ 4) (x : Nat) (R : List (List Int)) : ∀ (d j : Nat) (acc : List (List Int)), j + d = T.length → acc.length + d ≤ 1000000 → x ≤ 100 →
    Ev (fun k => impl_choices.l0 k (n : Int) (m : Int) (acc ++ (T.drop j).map fun r => (x : Int) :: r) ((x : Int) + 1)) R → Ev (fun k => impl_choices.l1 k (n : Int) (m : Int) acc (x : Int) T (T.length : Int) (j : Int)) R
  | 0, j, acc, h, ha, hx, cont => by
    rw [List.drop_eq_nil_of_le (by omega), List.map_nil, List.append_nil] at cont
    refine Ev.step (fun f => impl_choices.l1.eq_2 ..) (ev_neg (by omega) ?_)
    rw [wr (by omega) (by omega)]
    exact cont
  | d + 1, j, acc, h, ha, hx, cont => by
    have hlt : j < T.length := by omega
    have hm := hT _ (List.getElem_mem hlt)
    refine Ev.step (fun f => impl_choices.l1.eq_2 ..) (ev_pos (by omega) (ev_pos (by omega) (ev_pos (by omega) (ev_bind0 rfl ?_))))
    rw [rdL_at hlt, wr (by omega) (by omega)]
    refine ev_pos (by simp; omega) (ev_pos (by omega) ?_)
    refine l1_loop n m T hTl hT x R d (j + 1) (acc ++ [[(x : Int)] ++ T[j]]) (by omega) (by simp; omega) hx ?_
    rw [List.append_assoc]
    rw [List.drop_eq_getElem_cons hlt, List.map_cons] at cont
    exact cont
theorem l0_loop (n m : Nat) (hn : n ≤ 16) (hm : m ≤ 3) (ih : ∀ a : Nat, a ≤ 100 → Ev (fun k => impl_choices.f k (n : Int) (m : Int) (a : Int)) (ch n m a)) : ∀ (d x : Nat) (acc : List (List Int)), d = n - x → x ≤ 100 → acc.length + d * 4096 ≤ 70000 →
    Ev (fun k => impl_choices.l0 k (n : Int) ((m + 1 : Nat) : Int) acc (x : Int)) (acc ++ chFrom (ch n m) d x)
  | 0, x, acc, h, hx, ha => Ev.step (fun f => impl_choices.l0.eq_2 ..) (ev_neg (by omega) (ev_eq (Ev.now _) (by simp [chFrom])))
  | d + 1, x, acc, h, hx, ha => by
    have hl := ch_len3 n hn m (x + 1) hm
    refine Ev.step (fun f => impl_choices.l0.eq_2 ..) (ev_pos (by omega) ?_)
    rw [wr (show -9223372036854775808 ≤ (x : Int) + 1 by omega) (by omega), wr (show -9223372036854775808 ≤ ((m + 1 : Nat) : Int) - 1 by omega) (by omega), show ((m + 1 : Nat) : Int) - 1 = (m : Int) by omega]
    refine Ev.bind (ih (x + 1) (by omega)) ?_
    refine l1_loop n (m + 1) (ch n m (x + 1)) (by omega) (fun r hr => by rw [ch_mem n m _ r hr]; omega) x _ (ch n m (x + 1)).length 0 acc (by omega) (by omega) hx ?_
    rw [List.drop_zero]
    have := l0_loop n m hn hm ih d (x + 1) (acc ++ (ch n m (x + 1)).map fun r => (x : Int) :: r) (by omega) (by omega) (by rw [List.length_append, List.length_map]; omega)
    rw [List.append_assoc] at this
    exact this
theorem choices_ev (n : Nat) (hn : n ≤ 16) : ∀ (m : Nat), m ≤ 4 → ∀ a : Nat, a ≤ 100 → Ev (fun k => impl_choices.f k (n : Int) (m : Int) (a : Int)) (ch n m a)
  | 0, _, a, ha => Ev.step (fun f => impl_choices.f.eq_2 ..) (ev_pos rfl (Ev.now _))
  | m + 1, hm, a, ha => by
    refine Ev.step (fun f => impl_choices.f.eq_2 ..) (ev_neg (by omega) ?_)
    have := l0_loop n m hn (by omega) (fun b hb => choices_ev n hn m (by omega) b hb) (n - a) a [] rfl ha (by simp; omega)
    rw [List.nil_append] at this
    exact this
theorem ev_all {α β : Type} (g : Nat → α → Option β) (v : α → β) : ∀ t : List α, (∀ x ∈ t, Ev (fun k => g k x) (v x)) → ∃ K, ∀ k, K ≤ k → ∀ x ∈ t, g k x = some (v x)
  | [], _ => ⟨0, fun _ _ x hx => by cases hx⟩
  | y :: t, h => by
    obtain ⟨K, hK⟩ := ev_all g v t (fun x hx => h x (List.mem_cons_of_mem _ hx))
    obtain ⟨K', hK'⟩ := h y List.mem_cons_self
    refine ⟨max K K', fun k hk x hx => ?_⟩
    rcases List.mem_cons.1 hx with e | e
    · subst e; exact hK' k (by omega)
    · exact hK k (by omega) x e
theorem fairCuts_ev (s : ByteArray) (hb : beads s = true) (hs : s.size ≤ 16) (m : Nat) (hm : m ≤ 4) : Ev (fun k => impl_fairCuts.f k s (m : Int)) ((ch s.size m 1).filter (fairOf s)) := by
  refine Ev.bind (choices_ev s.size hs m hm 1 (by omega)) ?_
  have hone : ∀ x ∈ ch s.size m 1, Ev (fun k => impl_fairCuts_1.f k x [s]) (!fairOf s x) := fun x hx => by
    have hl := ch_mem s.size m 1 x hx
    refine ev_pos (by simp) ?_
    exact Ev.bind (isFair_ev s hb hs x (by omega)) (Ev.now _)
  obtain ⟨K, hK⟩ := ev_all (fun k x => impl_fairCuts_1.f k x [s]) (fun x => !fairOf s x) _ hone
  have hlen := ch_len s.size hs m 1
  have hp : 16 ^ m ≤ 16 ^ 4 := Nat.pow_le_pow_right (by omega) hm
  refine ⟨K, fun k hk => ?_⟩
  have hq : ∀ x ∈ ch s.size m 1, impl_fairCuts_1.f k x [s] = some (!fairOf s x) := hK k hk
  show (if ((ch s.size m 1).all fun x => (impl_fairCuts_1.f k x [s]).isSome) && decide ((ch s.size m 1).length ≤ 9223372036854775807) then some ((ch s.size m 1).filter fun x => !impl_fairCuts.q k s x) else none) = _
  rw [if_pos]
  · congr 1
    refine List.filter_congr fun x hx => ?_
    unfold impl_fairCuts.q
    rw [hq x hx]
    cases fairOf s x <;> rfl
  · rw [Bool.and_eq_true]
    exact ⟨List.all_eq_true.2 fun x hx => by rw [hq x hx]; rfl, decide_eq_true (by omega)⟩
/-! ### the reference -/
/-- The first fair one of some lists, and how many are fair. -/
def sp (s : ByteArray) (L : List (List Int)) : List Int × Int := ((L.filter (fairOf s)).headD [], ((L.filter (fairOf s)).length : Int))
theorem hd_append (A B : List (List Int)) : ((A ++ B).headD [], ((A ++ B).length : Int)) = if (A.length : Int) = 0 then (if (B.length : Int) > 0 then (B.headD [], (A.length : Int) + (B.length : Int)) else (A.headD [], (A.length : Int) + (B.length : Int))) else (A.headD [], (A.length : Int) + (B.length : Int)) := by
  have e : ((A ++ B).length : Int) = (A.length : Int) + (B.length : Int) := by rw [List.length_append]; omega
  rw [e]
  cases A with
  | nil =>
    rw [if_pos (show (([] : List (List Int)).length : Int) = 0 from rfl)]
    cases B with
    | nil => rw [if_neg (by decide)]; rfl
    | cons y B => rw [if_pos (by rw [List.length_cons]; omega)]; rfl
  | cons x A => rw [if_neg (by rw [List.length_cons]; omega)]; rfl
theorem sp_append (s : ByteArray) (L M : List (List Int)) : sp s (L ++ M) = if (sp s L).2 = 0 then (if (sp s M).2 > 0 then ((sp s M).1, (sp s L).2 + (sp s M).2) else ((sp s L).1, (sp s L).2 + (sp s M).2)) else ((sp s L).1, (sp s L).2 + (sp s M).2) := by
  unfold sp
  rw [List.filter_append]
  exact hd_append _ _
theorem sp_le (s : ByteArray) (L : List (List Int)) : 0 ≤ (sp s L).2 ∧ (sp s L).2 ≤ L.length := by
  have := List.length_filter_le (fairOf s) L
  unfold sp
  show 0 ≤ (((L.filter (fairOf s)).length : Nat) : Int) ∧ (((L.filter (fairOf s)).length : Nat) : Int) ≤ _
  omega
theorem own_ev (l : List Int) (h : l.length ≤ 100) : spec_l1Own.f l = some l := by
  unfold spec_l1Own.f
  rw [Option.bind_some, if_pos (by simp; omega), List.nil_append]
/-- Where the next cut may lie. -/
def From (cuts : List Int) (a : Nat) : Prop := (cuts = [] ∧ a = 1) ∨ (0 < cuts.length ∧ rd cuts ((cuts.length - 1 : Nat) : Int) + 1 = (a : Int))
theorem from_snoc (cuts : List Int) (x : Nat) : From (cuts ++ [(x : Int)]) (x + 1) := by
  refine .inr ⟨by simp, ?_⟩
  have : rd (cuts ++ [(x : Int)]) (((cuts ++ [(x : Int)]).length - 1 : Nat) : Int) = (x : Int) := by
    unfold rd
    rw [Int.toNat_natCast, List.length_append, List.length_singleton, Nat.add_sub_cancel, List.getD_eq_getElem?_getD, List.getElem?_append_right (Nat.le_refl _), Nat.sub_self]
    rfl
  rw [this]; omega
theorem map_cons_app (cuts : List Int) (x : Int) (T : List (List Int)) : (T.map fun r => x :: r).map (fun r => cuts ++ r) = T.map fun r => (cuts ++ [x]) ++ r := by
  rw [List.map_map]
  refine List.map_congr_left fun r _ => ?_
  simp
theorem spl_loop (s : ByteArray) (hb : beads s = true) (hs : s.size ≤ 16) (m : Nat) (hm : m ≤ 3) (cuts : List Int) (hc : cuts.length + m ≤ 10)
    (ih : ∀ (x : Nat), x ≤ 100 → Ev (fun k => spec_nlSplits.f k s (cuts ++ [(x : Int)]) (m : Int)) (sp s ((ch s.size m (x + 1)).map fun r => (cuts ++ [(x : Int)]) ++ r))) :
    ∀ (d x : Nat) (L : List (List Int)), d = s.size - x → x ≤ 100 → L.length + d * 4096 ≤ 70000 →
      Ev (fun k => spec_nlSplits.l0 k s cuts ((m + 1 : Nat) : Int) (sp s L).1 (sp s L).2 (x : Int)) (sp s (L ++ (chFrom (ch s.size m) d x).map fun r => cuts ++ r))
  | 0, x, L, h, hx, hl => Ev.step (fun f => spec_nlSplits.l0.eq_2 ..) (ev_neg (by omega) (ev_eq (Ev.now _) (by simp [chFrom])))
  | d + 1, x, L, h, hx, hl => by
    have h1 := sp_le s L
    have h2 := sp_le s ((ch s.size m (x + 1)).map fun r => (cuts ++ [(x : Int)]) ++ r)
    have h3 := ch_len3 s.size hs m (x + 1) hm
    rw [List.length_map] at h2
    have h4 := sp_append s L ((ch s.size m (x + 1)).map fun r => (cuts ++ [(x : Int)]) ++ r)
    have hrec := spl_loop s hb hs m hm cuts hc ih d (x + 1) (L ++ (ch s.size m (x + 1)).map fun r => (cuts ++ [(x : Int)]) ++ r) (by omega) (by omega) (by rw [List.length_append, List.length_map]; omega)
    have e : L ++ (chFrom (ch s.size m) (d + 1) x).map (fun r => cuts ++ r) = (L ++ (ch s.size m (x + 1)).map fun r => (cuts ++ [(x : Int)]) ++ r) ++ (chFrom (ch s.size m) d (x + 1)).map fun r => cuts ++ r := by
      rw [chFrom, List.map_append, map_cons_app, List.append_assoc]
    rw [e]
    refine Ev.step (fun f => spec_nlSplits.l0.eq_2 ..) (ev_pos (by omega) (ev_bind0 (own_ev cuts (by omega)) (ev_pos (by omega) ?_)))
    rw [wr (show -9223372036854775808 ≤ ((m + 1 : Nat) : Int) - 1 by omega) (by omega), show ((m + 1 : Nat) : Int) - 1 = (m : Int) by omega]
    refine Ev.bind (ih x hx) ?_
    rw [wr (show -9223372036854775808 ≤ (x : Int) + 1 by omega) (by omega), wr (show -9223372036854775808 ≤ (sp s L).2 + (sp s ((ch s.size m (x + 1)).map fun r => (cuts ++ [(x : Int)]) ++ r)).2 by omega) (by omega)]
    rw [h4] at hrec
    by_cases c1 : (sp s L).2 = 0
    · rw [if_pos c1] at hrec
      refine ev_pos c1 ?_
      by_cases c2 : (sp s ((ch s.size m (x + 1)).map fun r => (cuts ++ [(x : Int)]) ++ r)).2 > 0
      · rw [if_pos c2] at hrec
        exact ev_pos c2 hrec
      · rw [if_neg c2] at hrec
        exact ev_neg c2 hrec
    · rw [if_neg c1] at hrec
      exact ev_neg c1 hrec
theorem splits_ev (s : ByteArray) (hb : beads s = true) (hs : s.size ≤ 16) : ∀ (m : Nat), m ≤ 4 → ∀ (cuts : List Int) (a : Nat), From cuts a → a ≤ 101 → cuts.length + m ≤ 10 → Ev (fun k => spec_nlSplits.f k s cuts (m : Int)) (sp s ((ch s.size m a).map fun r => cuts ++ r))
  | 0, _, cuts, a, hF, ha, hc => by
    refine Ev.step (fun f => spec_nlSplits.f.eq_2 ..) (ev_pos rfl (Ev.bind (nlFair_ev s hb hs cuts (by omega)) ?_))
    have e : sp s ((ch s.size 0 a).map fun r => cuts ++ r) = if fairOf s cuts = true then (cuts, 1) else ([], 0) := by
      show sp s [cuts ++ []] = _
      rw [List.append_nil]
      unfold sp
      cases hf : fairOf s cuts <;> simp [hf]
    rw [e]
    by_cases hf : fairOf s cuts = true
    · rw [if_pos hf]
      refine ev_eq ?_ (if_pos hf).symm
      exact ev_bind0 (own_ev cuts (by omega)) (Ev.now _)
    · rw [if_neg hf]
      exact ev_eq (Ev.now _) (if_neg hf).symm
  | m + 1, hm, cuts, a, hF, ha, hc => by
    have hj : Ev (fun k => spec_nlSplits.j0 k s cuts ((m + 1 : Nat) : Int) (a : Int)) (sp s ((ch s.size (m + 1) a).map fun r => cuts ++ r)) := by
      refine Ev.step (fun f => spec_nlSplits.j0.eq_2 ..) ?_
      rcases Nat.lt_or_ge 100 a with hbig | hbig
      · have e : ch s.size (m + 1) a = [] := by
          show chFrom _ (s.size - a) a = []
          rw [show s.size - a = 0 by omega]; rfl
        rw [e]
        exact Ev.step (fun f => spec_nlSplits.l0.eq_2 ..) (ev_neg (by omega) (Ev.now _))
      · have := spl_loop s hb hs m (by omega) cuts (by omega) (fun x hx => splits_ev s hb hs m (by omega) (cuts ++ [(x : Int)]) (x + 1) (from_snoc cuts x) (by omega) (by simp; omega)) (s.size - a) a [] rfl hbig (by simp; omega)
        rw [List.nil_append] at this
        exact this
    refine Ev.step (fun f => spec_nlSplits.f.eq_2 ..) (ev_neg (by omega) ?_)
    rcases hF with ⟨h1, h2⟩ | ⟨h1, h2⟩
    · subst h1 h2
      exact ev_neg (by simp) hj
    · rw [wr (show -9223372036854775808 ≤ (cuts.length : Int) - 1 by omega) (by omega), show (cuts.length : Int) - 1 = ((cuts.length - 1 : Nat) : Int) by omega]
      refine ev_pos (by omega) (ev_pos (by omega) (ev_pos (by omega) ?_))
      rw [h2, wr (by omega) (by omega)]
      exact hj
end Go.Proofs.YtmbkkhpjcblijaaDoor.QFnExactFewestCuts
