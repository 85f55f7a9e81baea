/- Colours as told are a colouring with all colours that are told, each set is apart from as many as told, and sets that are apart with equal colours refuse others: for every input; there are no conditions. -/
import Derived.Test.YtemgnbpcchlpiaaDoorQFnKneserColoursClash
import Derived.Test.YtemgnbpcchlpiaaDoorQFnKneserColoursColoured
namespace Go.Proofs.YtemgnbpcchlpiaaDoor.Pure
open Go.RowKit Go.Proofs.YtemgnbpcchlpiaaDoorOwn Go.Proofs.YtemgnbpcchlpiaaDoor.PFnKneserColours Go.Proofs.YtemgnbpcchlpiaaDoorW.PrintWords Go.Proofs.YtemgnbpcchlpiaaDoorW.PrintLast Go.Proofs.YtemgnbpcchlpiaaDoorW.PrintMore Go.Proofs.YtemgnbpcchlpiaaDoor.QFnKneserColours
set_option linter.unusedVariables false
set_option linter.unusedSectionVars false
set_option maxRecDepth 100000
/-- How many sets of k of n items there are. -/
def chs : Nat → Nat → Nat
  | _, 0 => 1
  | 0, _ + 1 => 0
  | n + 1, k + 1 => chs n k + chs n (k + 1)
theorem choose_ok : ((List.range 9).all fun n => (List.range 9).all fun k => decide (impl_choose.f 12 (n : Int) (k : Int) = some ((chs n k : Nat) : Int)) && decide (spec_knChoose.f 12 (n : Int) (k : Int) = some ((chs n k : Nat) : Int))) = true := by decide +kernel
theorem choose_ev {n k : Nat} (hn : n ≤ 8) (hk : k ≤ 8) : Ev (fun f => impl_choose.f f (n : Int) (k : Int)) ((chs n k : Nat) : Int) ∧ Ev (fun f => spec_knChoose.f f (n : Int) (k : Int)) ((chs n k : Nat) : Int) := by
  have := List.all_eq_true.1 (List.all_eq_true.1 choose_ok n (List.mem_range.2 (by omega))) k (List.mem_range.2 (by omega))
  rw [Bool.and_eq_true] at this
  exact ⟨ev_mono (g := fun f => impl_choose.f f (n : Int) (k : Int)) (K := 12) (fun f => impl_choose.mono _ _ _) (of_decide_eq_true this.1), ev_mono (g := fun f => spec_knChoose.f f (n : Int) (k : Int)) (K := 12) (fun f => spec_knChoose.mono _ _ _) (of_decide_eq_true this.2)⟩
def orF (s x : Int) : Int := Go.bits .or .i64 s (shl .i64 1 x)
def chkK (n k : Nat) (S : List Int) (F : Int) : Bool :=
  (S.all fun y => S.all fun z => decide (y.toNat &&& z.toNat ≠ 0) || decide (col F y ≠ col F z))
  && ((S.map (col F)).all fun x => decide (0 ≤ x) && decide (x < F))
  && decide ((S.map (col F)).foldl orF 0 = wrap64 (shl .i64 1 F - 1))
  && (S.all fun a => decide (S.countP (fun b => decide (a.toNat &&& b.toNat = 0)) = chs (n - k) k))
  && decide (S.length = chs n k)
theorem chk_ok : ((List.range 9).all fun n => (List.range 9).all fun k => decide (k = 0) || decide (n < k) || chkK n k (setL n (k : Int)) (few (n : Int) (k : Int))) = true := by decide +kernel
theorem sel_gt (k : Int) : ∀ (d i : Nat), ∀ y ∈ sel k d i, (i : Int) ≤ y
  | 0, i, y, h => by cases h
  | d + 1, i, y, h => by
    unfold sel at h
    split at h
    · rcases List.mem_cons.1 h with e | e
      · omega
      · have := sel_gt k d (i + 1) y e; omega
    · have := sel_gt k d (i + 1) y h; omega
theorem sel_inc (k : Int) : ∀ (d i : Nat), (sel k d i).Pairwise (· < ·)
  | 0, i => List.Pairwise.nil
  | d + 1, i => by
    unfold sel
    split
    · exact List.Pairwise.cons (fun y hy => by have := sel_gt k d (i + 1) y hy; omega) (sel_inc k d (i + 1))
    · exact sel_inc k d (i + 1)
theorem few_impl {n k : Int} (h1 : 1 ≤ n) (h2 : n ≤ 8) (h3 : 1 ≤ k) (h4 : k ≤ n) : impl_fewest.f n k = some (few n k) := by
  unfold impl_fewest.f few
  rw [wr (show -9223372036854775808 ≤ 2 * k by omega) (by omega), wr (show -9223372036854775808 ≤ n - 2 * k by omega) (by omega), wr (show -9223372036854775808 ≤ n - 2 * k + 2 by omega) (by omega)]
  split <;> rfl
theorem least_mn (a b : Int) : mn a b = least a b := by
  unfold mn least
  split <;> split <;> omega
theorem ctz_all : ((List.range 256).all fun x => decide (x = 0) || decide (Go.Lib.ctz 64 x = cz x)) = true := by decide +kernel
theorem ctz_eq {x : Nat} (h0 : 1 ≤ x) (h : x < 256) : Go.Lib.ctz 64 x = cz x := by
  have := List.all_eq_true.1 ctz_all x (List.mem_range.2 h)
  rw [decide_eq_false (by omega), Bool.false_or] at this
  exact of_decide_eq_true this
section
variable (n k : Int) (h1 : 1 ≤ n) (h2 : n ≤ 8) (h3 : 1 ≤ k) (h4 : k ≤ n) (T : List Int) (hT : T.length ≤ 1000) (hm : ∀ y ∈ T, ∃ x : Nat, y = (x : Int) ∧ 1 ≤ x ∧ x < 256)
include h1 h2 h3 h4 hT hm
theorem impl_loop : ∀ (d i : Nat) (acc : List Int), i + d = T.length → acc.length ≤ i → Ev (fun r => impl_ColoursOf.l0 r n k acc T (T.length : Int) (i : Int)) (acc ++ (T.drop i).map (col (few n k)), true)
  | 0, i, acc, h, ha => Ev.step (fun f => impl_ColoursOf.l0.eq_2 ..) (ev_neg (by omega) (ev_eq (Ev.now _) (by rw [List.drop_eq_nil_of_le (by omega)]; simp)))
  | d + 1, i, acc, h, ha => by
    have hlt : i < T.length := by omega
    obtain ⟨x, ex, hx1, hx2⟩ := hm _ (List.getElem_mem hlt)
    have hf := few_le h1 h2 h3 h4
    have hw : IntKind.u64.wrap (x : Int) = (x : Int) := by rw [IntKind.wrap_u64]; omega
    have htz : bits_TrailingZeros.f (x : Int) = some ((cz x : Nat) : Int) := by
      unfold bits_TrailingZeros.f
      rw [if_pos (by simp; omega), Int.toNat_natCast, ctz_eq hx1 hx2]
    refine Ev.step (fun f => impl_ColoursOf.l0.eq_2 ..) (ev_pos (by omega) (ev_pos (by omega) (ev_pos (by omega) ?_)))
    rw [rdAt hlt, List.drop_eq_getElem_cons hlt, List.map_cons, ex, hw]
    refine ev_bind0 htz (ev_bind0 (few_impl h1 h2 h3 h4) (ev_pos (by omega) ?_))
    rw [wr (show -9223372036854775808 ≤ (i : Int) + 1 by omega) (by omega), wr (show -9223372036854775808 ≤ few n k - 1 by omega) (by omega), least_mn]
    have := impl_loop d (i + 1) (acc ++ [least ((cz x : Nat) : Int) (few n k - 1)]) (by omega) (by simp; omega)
    rw [List.append_assoc] at this
    exact this
end
theorem same_loop (a : List Int) (ha : a.length ≤ 10000) : ∀ d i : Nat, i + d = a.length → Ev (fun f => laws_uSame.l0 f a a (a.length : Int) (i : Int)) true
  | 0, i, h => Ev.step (fun f => laws_uSame.l0.eq_2 ..) (ev_neg (by omega) (Ev.now _))
  | d + 1, i, h => by
    refine Ev.step (fun f => laws_uSame.l0.eq_2 ..) (ev_pos (by omega) (ev_pos (by omega) (ev_pos (by omega) (ev_pos (by omega) (ev_pos rfl ?_)))))
    rw [wr (show -9223372036854775808 ≤ (i : Int) + 1 by omega) (by omega)]
    exact same_loop a ha d (i + 1) (by omega)
theorem same_ev (a : List Int) (ha : a.length ≤ 10000) : Ev (fun f => laws_uSame.f f a a) true := ev_pos rfl (same_loop a ha a.length 0 (by omega))
theorem apart_two (a b : Int) : ∃ x : Bool × Bool, impl_AreApart.f a b = some x ∧ spec_AreApart.f a b = some x := by
  unfold impl_AreApart.f spec_AreApart.f
  rw [in_impl, in_spec, Option.bind_some, Option.bind_some]
  by_cases h : 0 ≤ a ∧ a ≤ 255
  · rw [decide_eq_true h, if_pos rfl, if_pos rfl, in_impl, in_spec, Option.bind_some]
    by_cases h' : 0 ≤ b ∧ b ≤ 255
    · rw [decide_eq_true h', if_pos rfl]; exact ⟨_, rfl, rfl⟩
    · rw [decide_eq_false h', if_neg (by decide)]; exact ⟨_, rfl, rfl⟩
  · rw [decide_eq_false h, if_neg (by decide), if_neg (by decide)]; exact ⟨_, rfl, rfl⟩
theorem apart_ev {a b : Nat} (ha : a < 256) (hb : b < 256) : impl_AreApart.f (a : Int) (b : Int) = some (decide (a &&& b = 0), true) := by
  unfold impl_AreApart.f
  rw [in_impl, Option.bind_some, decide_eq_true (by omega), if_pos rfl, in_impl, Option.bind_some, decide_eq_true (by omega), if_pos rfl, and_i64 a b ha hb]
  by_cases h : a &&& b = 0
  · rw [h]; rfl
  · rw [decide_eq_false h, beq_eq_false_iff_ne.mpr (show (((a &&& b : Nat) : Int)) ≠ 0 by omega)]
theorem drawApart {l : List Int} (h : U8 l) : ∃ r : Int × Int, spec_DrawAreApart.f l = some r := by
  unfold spec_DrawAreApart.f spec_l1Cur_one.f
  obtain ⟨v, a1, s1, e1, _, _, b1, c1⟩ := pick_ev h 0 6 (Int.le_refl 0) (by decide)
  rw [e1, Option.bind_some, Option.bind_some]
  dsimp only
  by_cases h0 : (v == 0) = true
  · obtain ⟨v2, a2, s2, e2, _, b2, c2⟩ := among_ev h s1 [-1, 0, 255, 256] (by decide) (show 0 ≤ a1 by omega) (by omega)
    rw [if_pos h0, e2, Option.bind_some]
    dsimp only
    obtain ⟨v3, a3, s3, e3, _⟩ := pick_ev h s2 256 (show 0 ≤ a2 by omega) (by omega)
    rw [e3, Option.bind_some]
    exact ⟨_, rfl⟩
  · rw [if_neg h0]
    obtain ⟨v2, a2, s2, e2, _, _, b2, c2⟩ := pick_ev h s1 256 (show 0 ≤ a1 by omega) (by omega)
    rw [e2, Option.bind_some]
    dsimp only
    obtain ⟨v3, a3, s3, e3, _, _, b3, c3⟩ := pick_ev h s2 256 (show 0 ≤ a2 by omega) (by omega)
    rw [e3, Option.bind_some]
    dsimp only
    obtain ⟨v4, a4, s4, e4, _⟩ := pick_ev h s3 256 (show 0 ≤ a3 by omega) (by omega)
    rw [e4, Option.bind_some]
    exact ⟨_, rfl⟩
/-- What is told behind the sets' colours. -/
theorem end_ev {l : List Int} (h : U8 l) : Ev (fun f => laws_FnKneserColours.j5 f l) true := by
  obtain ⟨⟨n, k, L, a, s⟩, hr, hl⟩ := coloured_ev h
  have hd : Ev (fun f => spec_DrawIsColouring.f f l) (n, k, L) := Ev.bind hr (Ev.now _)
  have hd2 : Ev (fun f => spec_DrawFirstApart.f f l) (n, k, L) := Ev.bind hd (Ev.now _)
  dsimp only at hl
  obtain ⟨⟨a', b'⟩, hab⟩ := drawApart h
  obtain ⟨⟨x1, x2⟩, hx1, hx2⟩ := apart_two a' b'
  suffices hs : ∃ (u : List Int) (o b o2 : Bool), twoL u ∧ o = !decide (u = []) ∧ (o = true → b = false) ∧ Ev (fun f => impl_FirstApart.f f n k L) (u, o) ∧ Ev (fun f => spec_FirstApart.f f n k L) (u, o) ∧ Ev (fun f => impl_IsColouring.f f n k L) (b, o2) ∧ Ev (fun f => spec_IsColouring.f f n k L) (b, o2) by
    obtain ⟨u, o, b, o2, ht, ho, hob, g1, g2, g3, g4⟩ := hs
    refine Ev.step (fun f => laws_FnKneserColours.j5.eq_2 ..) (Ev.bind hd2 (Ev.bind g1 (Ev.bind g2 (Ev.bind g3 (Ev.bind g4 (ev_bind0 hab (ev_bind0 hx1 (ev_bind0 hx2 (ev_pos (beq_self_eq_true o) (Ev.bind (same_ev u (by rcases ht with e | ⟨x, y, e, _⟩ <;> rw [e] <;> simp)) (ev_pos rfl (ev_pos (beq_self_eq_true o2) (ev_pos (beq_self_eq_true b) (ev_pos (beq_self_eq_true x2) (ev_pos (beq_self_eq_true x1) ?_)))))))))))))))
    cases o with
    | false => exact ev_neg Bool.false_ne_true (Ev.now _)
    | true =>
      rw [hob rfl]
      refine ev_pos rfl (ev_neg Bool.false_ne_true ?_)
      rcases ht with e | ⟨x, y, e, e1, e2, e3⟩
      · rw [e] at ho; exact absurd ho (by decide)
      · subst e
        refine ev_pos (by simp) (ev_pos (by simp) (ev_eq (Ev.now _) ?_))
        have r0 : rd [(x : Int), (y : Int)] 0 = (x : Int) := rfl
        have r1 : rd [(x : Int), (y : Int)] 1 = (y : Int) := rfl
        dsimp only
        rw [r0, r1, and_i64 x y e1 e2, e3]
        rfl
  cases hg : items n k with
  | false =>
    refine ⟨[], false, false, false, .inl rfl, by simp, fun h => (by cases h), ev_bind0 (items_eq n k) (ev_neg (by rw [hg]; decide) (Ev.now _)), ev_bind0 (given_eq n k) (ev_neg (by rw [hg]; decide) (Ev.step (fun f => spec_FirstApart.j0.eq_2 ..) (ev_pos rfl (Ev.now _)))), isCol_bad hg L, ev_bind0 (given_eq n k) (ev_neg (by rw [hg]; decide) (Ev.now _))⟩
  | true =>
    obtain ⟨⟨n1, n2⟩, k1, k2⟩ := items_in hg
    obtain ⟨n', en⟩ := Int.eq_ofNat_of_zero_le (show 0 ≤ n by omega)
    obtain ⟨k', ek⟩ := Int.eq_ofNat_of_zero_le (show 0 ≤ k by omega)
    subst en ek
    have hc := choose_ev (n := n') (k := k') (by omega) (by omega)
    have hk := List.all_eq_true.1 (List.all_eq_true.1 chk_ok n' (List.mem_range.2 (by omega))) k' (List.mem_range.2 (by omega))
    rw [decide_eq_false (by omega), decide_eq_false (by omega), Bool.false_or, Bool.false_or] at hk
    have hlen : (setL n' (k' : Int)).length = chs n' k' := by
      unfold chkK at hk
      exact of_decide_eq_true (Bool.and_eq_true_iff.1 hk).2
    have hn : n' < 9 := by omega
    have h2 := setsOf_ev n' (k' : Int) hn
    have h2' := knSets_ev n' (k' : Int) hn
    have h3 := setL_len (k' : Int) hn
    obtain ⟨b, hb1, hb2⟩ := isCol_ev hg L (by omega)
    by_cases hl' : (L.length : Int) = ((chs n' k' : Nat) : Int)
    · obtain ⟨u, ht, u1, u2, u3⟩ := clash_ev (setL n' (k' : Int)) L (by omega) (by omega) (setL_small hn)
      refine ⟨u, !decide (u = []), b, true, ht, rfl, fun e => ?_, ev_bind0 (items_eq _ _) (ev_pos hg (Ev.bind hc.1 (ev_pos hl' (Ev.bind h2 (Ev.bind u1 (Ev.now _)))))), ev_bind0 (given_eq _ _) (ev_pos hg (Ev.bind hc.2 (Ev.step (fun f => spec_FirstApart.j0.eq_2 ..) (ev_neg (by rw [hl', bne_self_eq_false]; decide) (Ev.bind h2' (Ev.bind u2 (Ev.now _))))))), hb1, ev_bind0 (given_eq _ _) (ev_pos hg (Ev.bind h2' (ev_pos (by omega) (ev_eq (neg_loop (setL n' (k' : Int)) L (by omega) (decide (u = [])) u2 rfl L.length 0 (by omega)) ?_))))⟩
      · cases b with
        | false => rfl
        | true =>
          have := u3.2 (hb2.1 rfl).2.1
          rw [decide_eq_true this] at e
          cases e
      · rw [List.drop_zero]
        congr 1
        rw [Bool.eq_iff_iff, hb2, Bool.and_eq_true, decide_eq_true_eq, u3, List.all_eq_true]
        exact ⟨fun e => ⟨by omega, e.2, fun x hx => of_decide_eq_true (e.1 x hx)⟩, fun e => ⟨fun x hx => decide_eq_true (e.2.2 x hx), e.2.1⟩⟩
    · have hbf : b = false := by
        cases b with
        | false => rfl
        | true => exact absurd (hb2.1 rfl).1 (by omega)
      subst hbf
      exact ⟨[], false, false, true, .inl rfl, by simp, fun h => (by cases h), ev_bind0 (items_eq _ _) (ev_pos hg (Ev.bind hc.1 (ev_neg hl' (Ev.now _)))), ev_bind0 (given_eq _ _) (ev_pos hg (Ev.bind hc.2 (Ev.step (fun f => spec_FirstApart.j0.eq_2 ..) (ev_pos (bne_iff_ne.mpr hl') (Ev.now _))))), hb1, ev_bind0 (given_eq _ _) (ev_pos hg (Ev.bind h2' (ev_neg (by omega) (Ev.now _))))⟩
section
variable {l1 S : List Int} (h : U8 l1) (dg : Nat) (hS : S.length ≤ 1000) (hs : ∀ y ∈ S, ∃ x : Nat, y = (x : Int) ∧ x < 256) (hd : ∀ a ∈ S, S.countP (fun b => decide (a.toNat &&& b.toNat = 0)) = dg)
include h hS hs hd
theorem deg_in (i : Nat) (hi : i < S.length) (cont : Ev (fun f => laws_FnKneserColours.l1 f l1 S (dg : Int) S (S.length : Int) ((i : Int) + 1)) true) :
    ∀ d j c : Nat, j + d = S.length → c ≤ j → c + (S.drop j).countP (fun b => decide (S[i].toNat &&& b.toNat = 0)) = dg → Ev (fun f => laws_FnKneserColours.l2 f l1 S (dg : Int) (rd S (i : Int)) (c : Int) S (S.length : Int) (i : Int) S (S.length : Int) (j : Int)) true
  | 0, j, c, hj, hc, hq => by
    rw [List.drop_eq_nil_of_le (by omega), List.countP_nil] at hq
    refine Ev.step (fun f => laws_FnKneserColours.l2.eq_2 ..) (ev_neg (by omega) (ev_pos (by omega) ?_))
    rw [wr (show -9223372036854775808 ≤ (i : Int) + 1 by omega) (by omega)]
    exact cont
  | d + 1, j, c, hj, hc, hq => by
    have hlt : j < S.length := by omega
    rw [List.drop_eq_getElem_cons hlt, List.countP_cons] at hq
    obtain ⟨x, ex, hx⟩ := hs _ (List.getElem_mem hi)
    obtain ⟨y, ey, hy⟩ := hs _ (List.getElem_mem hlt)
    have ha : impl_AreApart.f (rd S (i : Int)) (rd S (j : Int)) = some (decide (S[i].toNat &&& S[j].toNat = 0), true) := by
      rw [rdAt hi, rdAt hlt, ex, ey, apart_ev hx hy, Int.toNat_natCast, Int.toNat_natCast]
    refine Ev.step (fun f => laws_FnKneserColours.l2.eq_2 ..) (ev_pos (by omega) (ev_pos (by omega) (ev_pos (by omega) (ev_bind0 ha (ev_pos rfl ?_)))))
    dsimp only
    rw [wr (show -9223372036854775808 ≤ (j : Int) + 1 by omega) (by omega), wr (show -9223372036854775808 ≤ (c : Int) + 1 by omega) (by omega)]
    by_cases h0 : S[i].toNat &&& S[j].toNat = 0
    · rw [decide_eq_true h0, if_pos rfl] at hq
      rw [decide_eq_true h0]
      exact ev_pos rfl (deg_in i hi cont d (j + 1) (c + 1) (by omega) (by omega) (by omega))
    · rw [decide_eq_false h0, if_neg (by decide)] at hq
      rw [decide_eq_false h0]
      exact ev_neg (by decide) (deg_in i hi cont d (j + 1) c (by omega) (by omega) (by omega))
theorem deg_out : ∀ d i : Nat, i + d = S.length → Ev (fun f => laws_FnKneserColours.l1 f l1 S (dg : Int) S (S.length : Int) (i : Int)) true
  | 0, i, hi => Ev.step (fun f => laws_FnKneserColours.l1.eq_2 ..) (ev_neg (by omega) (end_ev h))
  | d + 1, i, hi => by
    refine Ev.step (fun f => laws_FnKneserColours.l1.eq_2 ..) (ev_pos (by omega) (ev_pos (by omega) (ev_pos (by omega) ?_)))
    exact deg_in h dg hS hs hd i (by omega) (deg_out d (i + 1) (by omega)) S.length 0 0 (by omega) (by omega) (by rw [List.drop_zero, Nat.zero_add]; exact hd _ (List.getElem_mem _))
end
theorem seen_loop {l1 S C : List Int} {F dg : Int} (hF : 0 ≤ F) (hl : C.length = S.length) (hS : S.length ≤ 1000) (hC : ∀ x ∈ C, 0 ≤ x ∧ x < F) (hi : S.Pairwise (· < ·)) (cont : Ev (fun f => laws_FnKneserColours.l1 f l1 S dg S (S.length : Int) 0) true) :
    ∀ (d i : Nat) (s : Int), i + d = C.length → (C.drop i).foldl orF s = wrap64 (shl .i64 1 F - 1) → Ev (fun f => laws_FnKneserColours.l0 f l1 F S dg s C (C.length : Int) (i : Int)) true
  | 0, i, s, h, hs => by
    rw [List.drop_eq_nil_of_le (by omega)] at hs
    exact Ev.step (fun f => laws_FnKneserColours.l0.eq_2 ..) (ev_neg (by omega) (ev_pos hF (ev_pos hs cont)))
  | d + 1, i, s, h, hs => by
    have hlt : i < C.length := by omega
    rw [List.drop_eq_getElem_cons hlt, List.foldl_cons] at hs
    have hx := hC _ (List.getElem_mem hlt)
    have ih := seen_loop hF hl hS hC hi cont d (i + 1) _ (by omega) hs
    refine Ev.step (fun f => laws_FnKneserColours.l0.eq_2 ..) (ev_pos (by omega) (ev_pos (by omega) (ev_pos (by omega) ?_)))
    rw [rdAt hlt, wr (show -9223372036854775808 ≤ (i : Int) + 1 by omega) (by omega)]
    refine ev_pos hx.1 (ev_neg (by omega) (ev_neg (by omega) ?_))
    by_cases h0 : (i : Int) > 0
    · have e1 : wrap64 ((i : Int) - 1) = ((i - 1 : Nat) : Int) := by rw [wr (by omega) (by omega)]; omega
      rw [e1]
      have := List.pairwise_iff_getElem.1 hi (i - 1) i (by omega) (by omega) (by omega)
      refine ev_pos h0 (ev_pos (by omega) (ev_pos (by omega) (ev_pos (by omega) (ev_neg ?_ ih))))
      rw [rdAt (show i - 1 < S.length by omega), rdAt (show i < S.length by omega)]
      omega
    · exact ev_neg h0 ih
theorem FnKneserColours : laws_FnKneserColours.Pure := by
  intro l0 l1 _ _ u0 _ _ u1
  apply Ev.rounds
  obtain ⟨b, hb⟩ : ∃ b, laws_big.f l0 l1 = some b := by
    unfold laws_big.f
    split <;> exact ⟨_, rfl⟩
  refine ev_bind0 hb ?_
  cases b with
  | true => exact ev_pos rfl (Ev.now _)
  | false =>
    refine ev_neg (by decide) ?_
    obtain ⟨n, k, a, s, e0, _, _⟩ := sets_ev u0 0 7 (Int.le_refl 0) (by decide)
    have hd : spec_DrawColoursOf.f l0 = some (n, k) := by
      unfold spec_DrawColoursOf.f spec_DrawSetsOf.f
      rw [e0]; rfl
    refine ev_bind0 hd ?_
    cases hg : items n k with
    | false =>
      have bad : ¬ items n k = true := by rw [hg]; decide
      have h1 : Ev (fun f => impl_ColoursOf.f f n k) ([], false) := ev_bind0 (items_eq n k) (ev_neg bad (Ev.now _))
      have h3 : impl_FewestColours.f n k = some (0, false) := by unfold impl_FewestColours.f; rw [items_eq, Option.bind_some, if_neg bad]
      have h4 : spec_FewestColours.f n k = some (0, false) := by unfold spec_FewestColours.f; rw [given_eq, Option.bind_some, if_neg bad]
      have h5 : Ev (fun f => impl_SetsOf.f f n k) ([], false) := ev_bind0 (items_eq n k) (ev_neg bad (Ev.now _))
      have h6 : Ev (fun f => spec_SetsOf.f f n k) ([], false) := ev_bind0 (given_eq n k) (ev_neg bad (Ev.now _))
      have h7 : Ev (fun f => impl_CountSets.f f n k) (0, false) := ev_bind0 (items_eq n k) (ev_neg bad (Ev.now _))
      have h8 : Ev (fun f => spec_CountSets.f f n k) (0, false) := ev_bind0 (given_eq n k) (ev_neg bad (Ev.now _))
      have h9 : Ev (fun f => impl_DegreeOfSet.f f n k) (0, false) := ev_bind0 (items_eq n k) (ev_neg bad (Ev.now _))
      have h10 : Ev (fun f => spec_DegreeOfSet.f f n k) (0, false) := ev_bind0 (given_eq n k) (ev_neg bad (Ev.now _))
      have hs := same_ev [] (by simp)
      refine Ev.bind h1 (Ev.bind (colS_bad hg) (ev_bind0 h3 (ev_bind0 h4 (Ev.bind h5 (Ev.bind h6 (Ev.bind h7 (Ev.bind h8 (Ev.bind h9 (Ev.bind h10 (ev_neg (by decide) (Ev.bind hs (ev_pos rfl (ev_neg (by decide) (ev_pos rfl (ev_neg (by decide) (Ev.bind hs (ev_pos rfl (ev_neg (by decide) (ev_pos rfl (ev_neg (by decide) (ev_pos rfl (ev_neg (by decide) (ev_neg (by decide) (ev_neg (by decide) ?_))))))))))))))))))))))))
      exact Ev.step (fun f => laws_FnKneserColours.j0.eq_2 ..) (ev_neg (by decide) (ev_neg (by decide) (end_ev u1)))
    | true =>
      obtain ⟨⟨n1, n2⟩, k1, k2⟩ := items_in hg
      obtain ⟨n', en⟩ := Int.eq_ofNat_of_zero_le (show 0 ≤ n by omega)
      obtain ⟨k', ek⟩ := Int.eq_ofNat_of_zero_le (show 0 ≤ k by omega)
      subst en ek
      have hn : n' < 9 := by omega
      have hc := choose_ev (n := n') (k := k') (by omega) (by omega)
      have hdg := choose_ev (n := n' - k') (k := k') (by omega) (by omega)
      have hk := List.all_eq_true.1 (List.all_eq_true.1 chk_ok n' (List.mem_range.2 (by omega))) k' (List.mem_range.2 (by omega))
      rw [decide_eq_false (by omega), decide_eq_false (by omega), Bool.false_or, Bool.false_or] at hk
      unfold chkK at hk
      simp only [Bool.and_eq_true, decide_eq_true_eq] at hk
      obtain ⟨⟨⟨⟨q1, q2⟩, q3⟩, q4⟩, q5⟩ := hk
      have hf := few_le (n := (n' : Int)) (k := (k' : Int)) (by omega) (by omega) (by omega) (by omega)
      have hlen := setL_len (k' : Int) hn
      have hm1 : ∀ y ∈ setL n' (k' : Int), ∃ x : Nat, y = (x : Int) ∧ 1 ≤ x ∧ x < 256 := fun y hy => by
        have hp := pow_le hn
        obtain ⟨x, e1, e2, e3⟩ := sel_mem _ _ _ hy
        exact ⟨x, e1, pc_pos (by omega), by omega⟩
      have h2 := colS_ev (n := n') (k := (k' : Int)) (by omega) (by omega) (by omega) (by omega)
      have r2 := impl_loop (n' : Int) (k' : Int) (by omega) (by omega) (by omega) (by omega) (setL n' (k' : Int)) (by omega) hm1 (setL n' (k' : Int)).length 0 [] (by omega) (by simp)
      rw [List.drop_zero, List.nil_append] at r2
      have h1 : Ev (fun f => impl_ColoursOf.f f (n' : Int) (k' : Int)) ((setL n' (k' : Int)).map (col (few (n' : Int) (k' : Int))), true) := ev_bind0 (items_eq _ _) (ev_pos hg (Ev.bind (setsOf_ev n' _ hn) r2))
      have h3 : impl_FewestColours.f (n' : Int) (k' : Int) = some (few (n' : Int) (k' : Int), true) := by unfold impl_FewestColours.f; rw [items_eq, Option.bind_some, if_pos hg, few_impl (by omega) (by omega) (by omega) (by omega)]; rfl
      have h4 : spec_FewestColours.f (n' : Int) (k' : Int) = some (few (n' : Int) (k' : Int), true) := by unfold spec_FewestColours.f; rw [given_eq, Option.bind_some, if_pos hg, few_spec (by omega) (by omega) (by omega) (by omega)]; rfl
      have h5 : Ev (fun f => impl_SetsOf.f f (n' : Int) (k' : Int)) (setL n' (k' : Int), true) := ev_bind0 (items_eq _ _) (ev_pos hg (Ev.bind (setsOf_ev n' _ hn) (Ev.now _)))
      have h6 : Ev (fun f => spec_SetsOf.f f (n' : Int) (k' : Int)) (setL n' (k' : Int), true) := ev_bind0 (given_eq _ _) (ev_pos hg (Ev.bind (knSets_ev n' _ hn) (Ev.now _)))
      have h7 : Ev (fun f => impl_CountSets.f f (n' : Int) (k' : Int)) (((chs n' k' : Nat) : Int), true) := ev_bind0 (items_eq _ _) (ev_pos hg (Ev.bind hc.1 (Ev.now _)))
      have h8 : Ev (fun f => spec_CountSets.f f (n' : Int) (k' : Int)) (((chs n' k' : Nat) : Int), true) := ev_bind0 (given_eq _ _) (ev_pos hg (Ev.bind hc.2 (Ev.now _)))
      have ew : wrap64 ((n' : Int) - (k' : Int)) = ((n' - k' : Nat) : Int) := by rw [wr (by omega) (by omega)]; omega
      have h9 : Ev (fun f => impl_DegreeOfSet.f f (n' : Int) (k' : Int)) (((chs (n' - k') k' : Nat) : Int), true) := ev_bind0 (items_eq _ _) (ev_pos hg (by rw [ew]; exact Ev.bind hdg.1 (Ev.now _)))
      have h10 : Ev (fun f => spec_DegreeOfSet.f f (n' : Int) (k' : Int)) (((chs (n' - k') k' : Nat) : Int), true) := ev_bind0 (given_eq _ _) (ev_pos hg (by rw [ew]; exact Ev.bind hdg.2 (Ev.now _)))
      have hC : ∀ x ∈ (setL n' (k' : Int)).map (col (few (n' : Int) (k' : Int))), 0 ≤ x ∧ x < few (n' : Int) (k' : Int) := fun x hx => by
        have := List.all_eq_true.1 q2 x hx
        rw [Bool.and_eq_true] at this
        exact ⟨of_decide_eq_true this.1, of_decide_eq_true this.2⟩
      have hlC : ((setL n' (k' : Int)).map (col (few (n' : Int) (k' : Int)))).length = (setL n' (k' : Int)).length := List.length_map ..
      have hg_at : ∀ i : Nat, i < (setL n' (k' : Int)).length → ((setL n' (k' : Int)).map (col (few (n' : Int) (k' : Int)))).getD i 0 = col (few (n' : Int) (k' : Int)) ((setL n' (k' : Int)).getD i 0) ∧ (setL n' (k' : Int)).getD i 0 ∈ setL n' (k' : Int) := fun i hi => by
        rw [List.getD_eq_getElem?_getD, List.getD_eq_getElem?_getD, List.getElem?_map, List.getElem?_eq_getElem hi]
        exact ⟨rfl, List.getElem_mem hi⟩
      have hap : apartFrom (setL n' (k' : Int)) ((setL n' (k' : Int)).map (col (few (n' : Int) (k' : Int)))) 0 := fun i j _ h1 h2 h3 => by
        have a1 := hg_at i (by omega)
        have a2 := hg_at j h2
        rw [a1.1, a2.1]
        have := List.all_eq_true.1 (List.all_eq_true.1 q1 _ a1.2) _ a2.2
        rw [Bool.or_eq_true, decide_eq_true_eq, decide_eq_true_eq] at this
        rcases this with e | e
        · exact absurd h3 e
        · exact e
      obtain ⟨b, hb1, hb2⟩ := isCol_ev hg ((setL n' (k' : Int)).map (col (few (n' : Int) (k' : Int)))) (by omega)
      obtain rfl : b = true := hb2.2 ⟨hlC, hap, fun x hx => (hC x hx).1⟩
      have s1 := same_ev ((setL n' (k' : Int)).map (col (few (n' : Int) (k' : Int)))) (by omega)
      have s2 := same_ev (setL n' (k' : Int)) (by omega)
      have tail := deg_out u1 (chs (n' - k') k') (by omega) (setL_small hn) (fun a ha => of_decide_eq_true (List.all_eq_true.1 q4 a ha)) (setL n' (k' : Int)).length 0 (by omega)
      have loop := seen_loop (l1 := l1) (S := setL n' (k' : Int)) (C := (setL n' (k' : Int)).map (col (few (n' : Int) (k' : Int)))) (F := few (n' : Int) (k' : Int)) (dg := ((chs (n' - k') k' : Nat) : Int)) (by omega) hlC (by omega) hC (sel_inc _ _ _) tail _ 0 0 (by rw [Nat.zero_add]) (by rw [List.drop_zero]; exact q3)
      generalize (setL n' (k' : Int)).map (col (few (n' : Int) (k' : Int))) = C at h1 h2 hlC hb1 s1 loop
      generalize setL n' (k' : Int) = S at h5 h6 hlC q5 s2 loop
      refine Ev.bind h1 (Ev.bind h2 (ev_bind0 h3 (ev_bind0 h4 (Ev.bind h5 (Ev.bind h6 (Ev.bind h7 (Ev.bind h8 (Ev.bind h9 (Ev.bind h10 (ev_neg Bool.false_ne_true (Ev.bind s1 (ev_pos rfl (ev_neg Bool.false_ne_true (ev_pos rfl (ev_neg Bool.false_ne_true (Ev.bind s2 (ev_pos rfl (ev_neg Bool.false_ne_true (ev_pos rfl (ev_neg Bool.false_ne_true (ev_pos rfl (ev_neg Bool.false_ne_true (ev_neg Bool.false_ne_true (ev_neg Bool.false_ne_true ?_))))))))))))))))))))))))
      refine Ev.step (fun f => laws_FnKneserColours.j0.eq_2 ..) (ev_neg Bool.false_ne_true (ev_pos rfl (Ev.bind hb1 (ev_pos rfl (ev_pos rfl (ev_pos (by dsimp only; omega) ?_))))))
      exact Ev.step (fun f => laws_FnKneserColours.j1.eq_2 ..) (ev_neg (by rw [bne_iff_ne]; dsimp only; omega) loop)
end Go.Proofs.YtemgnbpcchlpiaaDoor.Pure
