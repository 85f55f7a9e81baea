/- The reference's search over the beads for three people: walked once. -/
import Derived.Test.YtafjjbkkcedgnaaDoorThreeL
namespace Go.Proofs.YtafjjbkkcedgnaaDoorOwn
open Go.RowKit Go.Shelf Go.Proofs.YtafjjbkkcedgnaaDoorW.PrintWords Go.Proofs.YtafjjbkkcedgnaaDoorW.PrintLast Go.Proofs.YtafjjbkkcedgnaaDoorW.PrintMore
set_option linter.unusedVariables false
set_option linter.unusedSimpArgs false
attribute [local go_sem] max2_int min2_int max_two min_two
theorem least_calls (a b : Int) (w : World) : Calls Tryd.prog 78 #[.int .i64 a, .int .i64 b] w fun e w' => e = .returned (.int .i64 (min a b)) ∧ w' = w := by
  by_cases h : a < b
  · have hm : min a b = a := by omega
    rw [hm]
    go_enter Tryd.func78, Tryd.ntmps78
    go_wp2
    go_ret
    exact ⟨rfl, rfl⟩
  · have hm : min a b = b := by omega
    rw [hm]
    go_enter Tryd.func78, Tryd.ntmps78
    go_wp2
    go_ret
    exact ⟨rfl, rfl⟩
/-- The rows, where the list of rows says that they lie. -/
def Left (w : World) (lb lo : Nat) (bk cp : Nat → Nat) : Prop := ∀ p, p < 3 → w.cell? ⟨lb, lo + p, none⟩ = some (.slice (some ⟨bk p, 0, none⟩) 4 (cp p))
theorem Left.below {w w1 : World} {lb lo : Nat} {bk cp : Nat → Nat} (h : Left w lb lo bk cp) (hb : Below w.heap.size w w1) : Left w1 lb lo bk cp := fun p hp => by
  have hc := h p hp
  have hlt : lb < w.heap.size := by
    have h2 := hc
    unfold World.cell? at h2
    rcases Nat.lt_or_ge lb w.heap.size with h1 | h1
    · exact h1
    · rw [Array.getElem?_eq_none h1] at h2
      cases h2
  exact (hb.cell hlt).trans hc
theorem Left.set {w : World} {lb lo b k : Nat} {bk cp : Nat → Nat} {u : Value} (h : Left w lb lo bk cp) (hne : lb ≠ b) : Left (w.setCell ⟨b, k, none⟩ u) lb lo bk cp := fun p hp => by
  have hc := h p hp
  unfold World.cell? at hc ⊢
  rw [set_other k u hne]
  exact hc
theorem lp_zero (g : Nat → Rws → Int) (k : Nat) (pen : Nat → Int) (rows : Rws) (p : Nat) (best : Int) (hp : p < 3) (h : rows p k = 0) : lp g k pen rows (3 - p) p best = lp g k pen rows (3 - (p + 1)) (p + 1) best := by
  rw [show 3 - p = (3 - (p + 1)) + 1 by omega]
  show (if rows p k = 0 then _ else _) = _
  rw [if_pos h]
theorem lp_next (g : Nat → Rws → Int) (k : Nat) (pen : Nat → Int) (rows : Rws) (p : Nat) (best : Int) (hp : p < 3) (h : ¬ rows p k = 0) : lp g k pen rows (3 - p) p best = lp g k pen rows (3 - (p + 1)) (p + 1) (min best (pen p + g p (upd rows p k (rows p k - 1)))) := by
  rw [show 3 - p = (3 - (p + 1)) + 1 by omega]
  show (if rows p k = 0 then _ else _) = _
  rw [if_neg h]
theorem wrap_lo {v : Int} (h0 : 0 ≤ v) (h1 : v ≤ 1000) : wrap64 (v - 1) = v - 1 ∧ wrap64 (v - 1 + 1) = v := by constructor <;> (unfold wrap64; omega)
theorem wrap_self {v : Int} (h0 : 0 ≤ v) (h1 : v ≤ 5000) : wrap64 v = v := by unfold wrap64; omega
theorem meas3 {p g : Nat} (hp : p < 3) (h : 3 - p ≤ g) : 3 - (p + 1) < g := by omega
theorem wrap_nat {i : Nat} (h : i ≤ 100000) : wrap64 ((i : Int) + 1) = ((i + 1 : Nat) : Int) := by unfold wrap64; omega
theorem wrap_sum {a b : Int} (h0 : 0 ≤ a) (h1 : a ≤ 1) (h2 : 0 ≤ b) (h3 : b ≤ 1000) : wrap64 (a + b) = a + b := by unfold wrap64; omega
theorem min_range {a b : Int} (h0 : 0 ≤ a) (h1 : a ≤ 1000) (h2 : 0 ≤ b) : 0 ≤ min a b ∧ min a b ≤ 1000 := by omega
theorem upd_range {rows : Rws} {p k : Nat} (h : ∀ p k, p < 3 → k < 4 → 0 ≤ rows p k ∧ rows p k ≤ 1000) (hp : p < 3) (hk : k < 4) (h0 : ¬ rows p k = 0) : ∀ p' k', p' < 3 → k' < 4 → 0 ≤ upd rows p k (rows p k - 1) p' k' ∧ upd rows p k (rows p k - 1) p' k' ≤ 1000 := fun p' k' h1 h2 => by
  have a := h p' k' h1 h2
  have b := h p k hp hk
  unfold upd
  split <;> omega
set_option maxHeartbeats 8000000 in
set_option maxRecDepth 100000 in
theorem nlThree_calls (s : ByteArray) (ks : List Nat) (hn : ks.length = s.size) (hsz : s.size ≤ 1000) (hks : ∀ (i k : Nat), ks[i]? = some k → k < 4 ∧ ∀ h : i < s.size, ((s[i]'h).toNat : Int) = 97 + (k : Int)) (lb lo cl : Nat) (bk cp : Nat → Nat) (hne : ∀ p, p < 3 → lb ≠ bk p) :
    ∀ (d at_ : Nat), at_ + d = s.size → ∀ (last : Nat) (rows : Rws) (w : World), Rows3 w bk rows → (∀ p k, p < 3 → k < 4 → 0 ≤ rows p k ∧ rows p k ≤ 1000) → Left w lb lo bk cp →
      Calls Tryd.prog 64 #[.string s, .int .i64 (at_ : Int), .int .i64 (last : Int), .slice (some ⟨lb, lo, none⟩) 3 cl] w fun e w' => e = .returned (.int .i64 (nl s.size (ks.drop at_) last rows)) ∧ Below w.heap.size w w' := by
  intro d
  induction d with
  | zero =>
    intro at_ hat last rows w hR hr hL
    have hq : ((at_ : Int) == (s.size : Int)) = true := beq_iff_eq.2 (by omega)
    have hd : nl s.size (ks.drop at_) last rows = 0 := by rw [List.drop_eq_nil_of_le (by omega)]; rfl
    rw [hd]
    clear hd hR hr hL hks hn
    go_enter Tryd.func64, Tryd.ntmps64
    go_wp2
    go_ret
    exact ⟨rfl, Below.refl _ _⟩
  | succ d ih =>
    intro at_ hat last rows w hR hr hL
    have hq : ((at_ : Int) == (s.size : Int)) = false := beq_eq_false_iff_ne.2 (by omega)
    have hlt : at_ < ks.length := by omega
    obtain ⟨k, hk⟩ : ∃ k, ks[at_]? = some k := ⟨_, List.getElem?_eq_getElem hlt⟩
    obtain ⟨hk4, hbyte⟩ := hks at_ k hk
    have hdr : ks.drop at_ = k :: ks.drop (at_ + 1) := by rw [List.drop_eq_getElem_cons hlt, ← (List.getElem?_eq_some_iff.1 hk).2]
    have hres : nl s.size (ks.drop at_) last rows = lp (fun p rows' => nl s.size (ks.drop (at_ + 1)) p rows') k (fun p => if 0 < at_ ∧ p ≠ last then 1 else 0) rows 3 0 1000 := by
      rw [hdr]
      show lp _ k (fun p => if (ks.drop (at_ + 1)).length + 1 < s.size ∧ p ≠ last then 1 else 0) rows 3 0 1000 = _
      have e : ((ks.drop (at_ + 1)).length + 1 < s.size) = (0 < at_) := by rw [List.length_drop]; exact propext (by omega)
      simp only [e]
    obtain ⟨res, hres2⟩ : ∃ res, nl s.size (ks.drop at_) last rows = res := ⟨_, rfl⟩
    rw [hres2]
    rw [hres2] at hres
    have hi0 : ((0 : Int) ≤ (at_ : Int)) = True := eq_true (by omega)
    have hi1 : ((at_ : Int) < (s.size : Int)) = True := eq_true (by omega)
    have hk1 : (97 + (k : Int) - 97) % 256 = (k : Int) := by omega
    have hk2 : (k : Int) % 256 = (k : Int) := by omega
    have hk0 : (0 ≤ (k : Int)) = True := eq_true (by omega)
    have hk3 : ((k : Int) < 4) = True := eq_true (by omega)
    have HRES := Aside0.mk hres
    have HR := Aside0.mk hR
    have HRR := Aside0.mk hr
    have HL := Aside0.mk hL
    have IH := Aside0.mk ih
    have HF := Aside0.mk (And.intro hat (And.intro hsz hk4))
    clear hres hR hr hL ih hres2 hdr hlt hk hks hn hat hsz
    go_enter Tryd.func64, Tryd.ntmps64
    go_wp2
    go_loopg [9, 24] 3 (fun gg s9 s24 wr => ∃ (p : Nat) (best : Int), s9 = .int .i64 best ∧ s24 = .int .i64 p ∧ p ≤ 3 ∧ 3 - p ≤ gg ∧ Aside0 (0 ≤ best ∧ best ≤ 1000) ∧ Aside0 (Below w.heap.size w wr) ∧ Aside0 (res = lp (fun p rows' => nl s.size (ks.drop (at_ + 1)) p rows') k (fun p => if 0 < at_ ∧ p ≠ last then 1 else 0) rows (3 - p) p best))
    case atStart => exact ⟨0, 1000, rfl, rfl, by omega, by omega, Aside0.mk ⟨by omega, by omega⟩, Aside0.mk (Below.refl _ _), HRES⟩
    case round =>
      obtain ⟨p, best, rfl, rfl, hp, hgg, hbest, hB, hres⟩ := hrel
      by_cases hlt : p < 3
      · have hz : ((p : Int) < 3) = True := eq_true (by omega)
        have hz0 : (0 ≤ (p : Int)) = True := eq_true (by omega)
        have HGG := Aside0.mk hgg
        clear hgg
        have R := HR.out.below hB.out
        have cL := (HL.out.below hB.out) p hlt
        have cR := R.cell hlt HF.out.2.2
        have fr := R.thawed (k := k) hlt
        have hrange := HRR.out p k hlt HF.out.2.2
        have hnext := wrap_nat (i := p) (by omega)
        have HN := Aside0.mk hnext
        have HP := Aside0.mk hlt
        obtain ⟨v, hv0⟩ : ∃ v, rows p k = v := ⟨_, rfl⟩
        rw [hv0] at cR hrange
        have HV0 := Aside0.mk hv0
        by_cases hv : v = 0
        · have hvb : (v == 0) = true := beq_iff_eq.2 hv
          have hl := lp_zero (fun p rows' => nl s.size (ks.drop (at_ + 1)) p rows') k (fun p => if 0 < at_ ∧ p ≠ last then 1 else 0) rows p best hlt (by rw [hv0, hv])
          have HLP := Aside0.mk hl
          clear hl R fr hrange hv0 hv hp hlt
          go_wp2
          go_roundg (3 - (p + 1))
          case measure => exact meas3 HP.out HGG.out
          case rel => exact ⟨p + 1, best, rfl, by first | rfl | rw [HN.out], HP.out, Nat.le_refl _, hbest, hB, Aside0.mk (by rw [hres.out, HLP.out])⟩
        · have hvb : (v == 0) = false := beq_eq_false_iff_ne.2 hv
          have hw1 := (wrap_lo hrange.1 hrange.2).1
          have hw2 := (wrap_lo hrange.1 hrange.2).2
          have hw3 := wrap_self hrange.1 (by omega)
          have R1 := R.set (k := k) hlt (v - 1)
          have L1 := (HL.out.below hB.out).set (k := k) (u := .int .i64 (v - 1)) (hne p hlt)
          have hur := upd_range (rows := rows) HRR.out hlt HF.out.2.2 (by rw [hv0]; exact hv)
          rw [hv0] at hur
          have hu : upd rows p k (v - 1) p k = v - 1 := by unfold upd; rw [if_pos ⟨rfl, rfl⟩]
          have hrec := IH.out (at_ + 1) (by have := HF.out.1; omega) p (upd rows p k (v - 1)) _ R1 hur L1
          have hat1 := wrap_nat (i := at_) (by have := HF.out; omega)
          obtain ⟨x, hx⟩ : ∃ x, nl s.size (ks.drop (at_ + 1)) p (upd rows p k (v - 1)) = x := ⟨_, rfl⟩
          have hxr := nl_range s.size (ks.drop (at_ + 1)) p (upd rows p k (v - 1))
          rw [hx] at hrec hxr
          have hx1 := wrap_self hxr.1 (by omega)
          have hx2 := wrap_sum (a := 1) (b := x) (by omega) (by omega) hxr.1 hxr.2
          have hmn : ∀ y : Int, 0 ≤ y → 0 ≤ min best y ∧ min best y ≤ 1000 := fun y hy => min_range hbest.out.1 hbest.out.2 hy
          have HMN0 := hmn x hxr.1
          have HMN1 := hmn (1 + x) (by omega)
          have HRV := Aside0.mk R
          have HR1 := Aside0.mk R1
          have HL1 := Aside0.mk L1
          have HU := Aside0.mk hu
          have HREC := Aside0.mk hrec
          have HX := Aside0.mk hx
          have HVN := Aside0.mk hv
          have HM0 := Aside0.mk HMN0
          have HM1 := Aside0.mk HMN1
          clear hnext hv0 R R1 L1 hur hu hrec hx hxr hmn HMN0 HMN1 hv hrange hp hlt hne
          by_cases ha : at_ = 0
          · have hap : ¬ (0 < (at_ : Int)) := by rw [ha]; exact Int.lt_irrefl 0
            have hap2 : decide (0 < (at_ : Int)) = false := decide_eq_false hap
            have hap3 : ¬ 0 < at_ := by rw [ha]; exact Nat.lt_irrefl 0
            have HA := Aside0.mk ha
            clear ha
            go_wp2_with (first
              | (go_at_call 64; refine HREC.out.mono ?_; rintro e w2 ⟨rfl, hb2⟩; have cL2 := (HL1.out.below hb2) p HP.out; have cR2 := (HR1.out.below hb2).cell HP.out HF.out.2.2; rw [HU.out] at cR2; have fr2 := (HR1.out.below hb2).thawed (k := k) HP.out; have HB2 := Aside0.mk hb2; clear hb2)
              | (go_at_call 78; refine (least_calls best x _).mono ?_; rintro e w3 ⟨rfl, rfl⟩))
            go_roundg (3 - (p + 1))
            case measure => exact meas3 HP.out HGG.out
            case rel =>
              have hrs := HRV.out.restore HP.out HF.out.2.2 HB2.out
              rw [HV0.out] at hrs
              have hl := lp_next (fun p rows' => nl s.size (ks.drop (at_ + 1)) p rows') k (fun p => if 0 < at_ ∧ p ≠ last then 1 else 0) rows p best HP.out (by rw [HV0.out]; exact HVN.out)
              rw [HV0.out, HX.out] at hl
              have hpn : (if 0 < at_ ∧ p ≠ last then (1 : Int) else 0) = 0 := if_neg (fun z => absurd z.1 (by rw [HA.out]; exact Nat.lt_irrefl 0))
              simp only [hpn] at hl
              exact ⟨p + 1, min best x, rfl, by first | rfl | rw [HN.out], HP.out, Nat.le_refl _, Aside0.mk HM0.out, Aside0.mk (hB.out.trans (hrs.mono hB.out.size)), Aside0.mk (by rw [hres.out, hl]; rw [Int.zero_add])⟩
          · have hap : 0 < (at_ : Int) := Int.natCast_pos.2 (Nat.pos_of_ne_zero ha)
            have hap2 : decide (0 < (at_ : Int)) = true := decide_eq_true hap
            have hap3 : 0 < at_ := Nat.pos_of_ne_zero ha
            have HA := Aside0.mk ha
            clear ha
            by_cases hl0 : p = last
            · have hl1 : ((p : Int) != (last : Int)) = false := by rw [hl0]; exact bne_self_eq_false _
              have hl2 : ((p : Int) == (last : Int)) = true := by rw [hl0]; exact beq_self_eq_true _
              have HL0 := Aside0.mk hl0
              clear hl0
              go_wp2_with (first
                | (go_at_call 64; refine HREC.out.mono ?_; rintro e w2 ⟨rfl, hb2⟩; have cL2 := (HL1.out.below hb2) p HP.out; have cR2 := (HR1.out.below hb2).cell HP.out HF.out.2.2; rw [HU.out] at cR2; have fr2 := (HR1.out.below hb2).thawed (k := k) HP.out; have HB2 := Aside0.mk hb2; clear hb2)
                | (go_at_call 78; refine (least_calls best x _).mono ?_; rintro e w3 ⟨rfl, rfl⟩))
              go_roundg (3 - (p + 1))
              case measure => exact meas3 HP.out HGG.out
              case rel =>
                have hrs := HRV.out.restore HP.out HF.out.2.2 HB2.out
                rw [HV0.out] at hrs
                have hl := lp_next (fun p rows' => nl s.size (ks.drop (at_ + 1)) p rows') k (fun p => if 0 < at_ ∧ p ≠ last then 1 else 0) rows p best HP.out (by rw [HV0.out]; exact HVN.out)
                rw [HV0.out, HX.out] at hl
                have hpn : (if 0 < at_ ∧ p ≠ last then (1 : Int) else 0) = 0 := if_neg (fun z => z.2 HL0.out)
                simp only [hpn] at hl
                exact ⟨p + 1, min best x, rfl, by first | rfl | rw [HN.out], HP.out, Nat.le_refl _, Aside0.mk HM0.out, Aside0.mk (hB.out.trans (hrs.mono hB.out.size)), Aside0.mk (by rw [hres.out, hl]; rw [Int.zero_add])⟩
            · have hl1 : ((p : Int) != (last : Int)) = true := bne_iff_ne.2 (fun z => hl0 (Int.ofNat.inj z))
              have hl2 : ((p : Int) == (last : Int)) = false := beq_eq_false_iff_ne.2 (fun z => hl0 (Int.ofNat.inj z))
              have HL0 := Aside0.mk hl0
              clear hl0
              go_wp2_with (first
                | (go_at_call 64; refine HREC.out.mono ?_; rintro e w2 ⟨rfl, hb2⟩; have cL2 := (HL1.out.below hb2) p HP.out; have cR2 := (HR1.out.below hb2).cell HP.out HF.out.2.2; rw [HU.out] at cR2; have fr2 := (HR1.out.below hb2).thawed (k := k) HP.out; have HB2 := Aside0.mk hb2; clear hb2)
                | (go_at_call 78; refine (least_calls best (1 + x) _).mono ?_; rintro e w3 ⟨rfl, rfl⟩))
              go_roundg (3 - (p + 1))
              case measure => exact meas3 HP.out HGG.out
              case rel =>
                have hrs := HRV.out.restore HP.out HF.out.2.2 HB2.out
                rw [HV0.out] at hrs
                have hl := lp_next (fun p rows' => nl s.size (ks.drop (at_ + 1)) p rows') k (fun p => if 0 < at_ ∧ p ≠ last then 1 else 0) rows p best HP.out (by rw [HV0.out]; exact HVN.out)
                rw [HV0.out, HX.out] at hl
                have hpn : (if 0 < at_ ∧ p ≠ last then (1 : Int) else 0) = 1 := if_pos ⟨Nat.pos_of_ne_zero HA.out, HL0.out⟩
                simp only [hpn] at hl
                exact ⟨p + 1, min best (1 + x), rfl, by first | rfl | rw [HN.out], HP.out, Nat.le_refl _, Aside0.mk HM1.out, Aside0.mk (hB.out.trans (hrs.mono hB.out.size)), Aside0.mk (by rw [hres.out, hl])⟩
      · have hp3 : p = 3 := by omega
        have hz : ((p : Int) < 3) = False := eq_false (by omega)
        have hfin := hres.out
        rw [hp3] at hfin
        have HFN := Aside0.mk hfin
        clear hfin hne hgg hp hp3 hlt
        go_wp2
        go_ret
        exact ⟨by rw [HFN.out]; rfl, hB.out⟩
end Go.Proofs.YtafjjbkkcedgnaaDoorOwn
