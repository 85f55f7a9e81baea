/- The program's search over the beads for three people: walked once. -/
import Derived.Test.YtafjjbkkcedgnaaDoorThreeS
namespace Go.Proofs.YtafjjbkkcedgnaaDoorOwn
open Go.RowKit Go.Shelf Go.Proofs.YtafjjbkkcedgnaaDoorW.PrintWords Go.Proofs.YtafjjbkkcedgnaaDoorW.PrintLast Go.Proofs.YtafjjbkkcedgnaaDoorW.PrintMore
set_option linter.unusedVariables false
set_option linter.unusedSimpArgs false
attribute [local go_sem] max2_int min2_int max_two min_two
theorem min_if (a b : Int) : (if b < a then b else a) = min a b := by
  by_cases h : b < a
  · rw [if_pos h]; omega
  · rw [if_neg h]; omega
theorem wrap_one {x : Int} (h0 : 0 ≤ x) (h1 : x ≤ 1000) : wrap64 (x + 1) = 1 + x := by unfold wrap64; omega
def agg3 (bk cp : Nat → Nat) : Value := .agg #[.slice (some ⟨bk 0, 0, none⟩) 4 (cp 0), .slice (some ⟨bk 1, 0, none⟩) 4 (cp 1), .slice (some ⟨bk 2, 0, none⟩) 4 (cp 2)]
theorem left_box {w1 : World} {gb : Nat} {bk cp : Nat → Nat} {t : TypeId} (h : w1.heap[gb]? = some (.cells #[.slice (some ⟨bk 0, 0, none⟩) 4 (cp 0), .slice (some ⟨bk 1, 0, none⟩) 4 (cp 1), .slice (some ⟨bk 2, 0, none⟩) 4 (cp 2)] t (0, 0))) : Left w1 gb 0 bk cp := fun p hp => by
  rw [Nat.zero_add, blk_cell h p]
  match p, hp with
  | 0, _ => rfl
  | 1, _ => rfl
  | 2, _ => rfl
set_option maxHeartbeats 8000000 in
set_option maxRecDepth 100000 in
theorem sharing_calls (s : ByteArray) (ks : List Nat) (hn : ks.length = s.size) (hsz : s.size ≤ 1000) (hks : ∀ (i k : Nat), ks[i]? = some k → k < 4 ∧ ∀ h : i < s.size, ((s[i]'h).toNat : Int) = 97 + (k : Int)) (bk cp : Nat → Nat) :
    ∀ (d at_ : Nat), at_ + d = s.size → ∀ (last : Nat) (lastI : Int) (rows : Rws) (w : World), (at_ = 0 ∧ lastI = -1 ∨ 0 < at_ ∧ lastI = (last : Int)) → Rows3 w bk rows → (∀ p k, p < 3 → k < 4 → 0 ≤ rows p k ∧ rows p k ≤ 1000) →
      Calls Tryd.prog 63 #[.string s, .int .i64 (at_ : Int), .int .i64 lastI, agg3 bk cp] w fun e w' => e = .returned (.int .i64 (nl s.size (ks.drop at_) last rows)) ∧ Below w.heap.size w w' := by
  intro d
  induction d with
  | zero =>
    intro at_ hat last lastI rows w hla hR hr
    have hq : ((at_ : Int) == (s.size : Int)) = true := beq_iff_eq.2 (by omega)
    have hd : nl s.size (ks.drop at_) last rows = 0 := by rw [List.drop_eq_nil_of_le (by omega)]; rfl
    rw [hd]
    clear hd hR hr hla hks hn
    unfold agg3
    go_enter Tryd.func63, Tryd.ntmps63
    go_wp2_with ((with_reducible refine gate_dst (N := 7) rfl ?_); refine box_event ?hg (N := 7) ?hd (cs := #[.slice (some ⟨bk 0, 0, none⟩) 4 (cp 0), .slice (some ⟨bk 1, 0, none⟩) 4 (cp 1), .slice (some ⟨bk 2, 0, none⟩) 4 (cp 2)]) (t := 58) ?hr ?_; (case hd => rfl); (case hg => rfl); (case hr => first | (go_simp; done) | (go_simp; rfl)); intro gb hg w1 hbox hb; have HB1 := Aside0.mk hb; have HX := Aside0.mk hbox; have HG := Aside0.mk hg; clear hb hbox hg)
    go_ret
    exact ⟨rfl, HB1.out⟩
  | succ d ih =>
    intro at_ hat last lastI rows w hla hR hr
    have hq : ((at_ : Int) == (s.size : Int)) = false := beq_eq_false_iff_ne.2 (by omega)
    have hlt : at_ < ks.length := by omega
    obtain ⟨k, hk⟩ : ∃ k, ks[at_]? = some k := ⟨_, List.getElem?_eq_getElem hlt⟩
    obtain ⟨hk4, hbyte⟩ := hks at_ k hk
    have hdr : ks.drop at_ = k :: ks.drop (at_ + 1) := by rw [List.drop_eq_getElem_cons hlt, ← (List.getElem?_eq_some_iff.1 hk).2]
    have hres : nl s.size (ks.drop at_) last rows = lp (fun p rows' => nl s.size (ks.drop (at_ + 1)) p rows') k (fun p => if 0 < at_ ∧ p ≠ last then 1 else 0) rows 3 0 1000 := by
      rw [hdr]
      show lp _ k (fun p => if (ks.drop (at_ + 1)).length + 1 < s.size ∧ p ≠ last then 1 else 0) rows 3 0 1000 = _
      have e : ((ks.drop (at_ + 1)).length + 1 < s.size) = (0 < at_) := by rw [List.length_drop]; exact propext (by omega)
      simp only [e]
    obtain ⟨res, hres2⟩ : ∃ res, nl s.size (ks.drop at_) last rows = res := ⟨_, rfl⟩
    rw [hres2]
    rw [hres2] at hres
    have hi0 : ((0 : Int) ≤ (at_ : Int)) = True := eq_true (by omega)
    have hi1 : ((at_ : Int) < (s.size : Int)) = True := eq_true (by omega)
    have hk1 : (97 + (k : Int) - 97) % 256 = (k : Int) := by omega
    have hk2 : (k : Int) % 256 = (k : Int) := by omega
    have hk0 : (0 ≤ (k : Int)) = True := eq_true (by omega)
    have hk3 : ((k : Int) < 4) = True := eq_true (by omega)
    have HRES := Aside0.mk hres
    have HR := Aside0.mk hR
    have HRR := Aside0.mk hr
    have HLA := Aside0.mk hla
    have IH := Aside0.mk ih
    have HF := Aside0.mk (And.intro hat (And.intro hsz hk4))
    clear hres hR hr hla ih hres2 hdr hlt hk hks hn hat hsz
    unfold agg3
    go_enter Tryd.func63, Tryd.ntmps63
    go_wp2_with ((with_reducible refine gate_dst (N := 7) rfl ?_); refine box_event ?hg (N := 7) ?hd (cs := #[.slice (some ⟨bk 0, 0, none⟩) 4 (cp 0), .slice (some ⟨bk 1, 0, none⟩) 4 (cp 1), .slice (some ⟨bk 2, 0, none⟩) 4 (cp 2)]) (t := 58) ?hr ?_; (case hd => rfl); (case hg => rfl); (case hr => first | (go_simp; done) | (go_simp; rfl)); intro gb hg w1 hbox hb; have HB1 := Aside0.mk hb; have HX := Aside0.mk hbox; have HG := Aside0.mk hg; clear hb hbox hg)
    repeat (go_quiet (fail); try go_wp2)
    have hlw := left_box (bk := bk) (cp := cp) HX.out
    have HLw := Aside0.mk hlw
    have HR1w := Aside0.mk (HR.out.below HB1.out)
    have hne : ∀ p, p < 3 → gb ≠ bk p := fun p hp e => by have h1 := HR.out.lt hp; have h2 := HG.out; omega
    have HNE := Aside0.mk hne
    clear hlw hne
    go_loopg [9, 21] 3 (fun gg s9 s21 wr => ∃ (p : Nat) (best : Int), s9 = .int .i64 best ∧ s21 = .int .i64 p ∧ p ≤ 3 ∧ 3 - p ≤ gg ∧ Aside0 (0 ≤ best ∧ best ≤ 1000) ∧ Aside0 (Below w1.heap.size w1 wr) ∧ Aside0 (res = lp (fun p rows' => nl s.size (ks.drop (at_ + 1)) p rows') k (fun p => if 0 < at_ ∧ p ≠ last then 1 else 0) rows (3 - p) p best))
    case atStart => exact ⟨0, 1000, rfl, rfl, by omega, by omega, Aside0.mk ⟨by omega, by omega⟩, Aside0.mk (by first | exact Below.refl _ _ | exact pw_below_drewN (Below.refl _ _) _), HRES⟩
    case round =>
      obtain ⟨p, best, rfl, rfl, hp, hgg, hbest, hB, hres⟩ := hrel
      by_cases hlt : p < 3
      · have hz : ((p : Int) < 3) = True := eq_true (by omega)
        have hz0 : (0 ≤ (p : Int)) = True := eq_true (by omega)
        have HGG := Aside0.mk hgg
        clear hgg
        have R := HR1w.out.below hB.out
        have cL := (HLw.out.below hB.out) p hlt
        rw [Nat.zero_add] at cL
        have cR := R.cell hlt HF.out.2.2
        have fr := R.thawed (k := k) hlt
        have hrange := HRR.out p k hlt HF.out.2.2
        have hnext := wrap_nat (i := p) (by omega)
        have HN := Aside0.mk hnext
        have HP := Aside0.mk hlt
        obtain ⟨v, hv0⟩ : ∃ v, rows p k = v := ⟨_, rfl⟩
        rw [hv0] at cR hrange
        have HV0 := Aside0.mk hv0
        by_cases hv : v = 0
        · have hvb : (v == 0) = true := beq_iff_eq.2 hv
          have hl := lp_zero (fun p rows' => nl s.size (ks.drop (at_ + 1)) p rows') k (fun p => if 0 < at_ ∧ p ≠ last then 1 else 0) rows p best hlt (by rw [hv0, hv])
          have HLP := Aside0.mk hl
          clear hl R fr hrange hv0 hv hp hlt
          go_wp2
          go_roundg (3 - (p + 1))
          case measure => exact meas3 HP.out HGG.out
          case rel => exact ⟨p + 1, best, rfl, by first | rfl | rw [HN.out], HP.out, Nat.le_refl _, hbest, hB, Aside0.mk (by rw [hres.out, HLP.out])⟩
        · have hvb : (v == 0) = false := beq_eq_false_iff_ne.2 hv
          have hw1 := (wrap_lo hrange.1 hrange.2).1
          have hw2 := (wrap_lo hrange.1 hrange.2).2
          have hw3 := wrap_self hrange.1 (by omega)
          have R1 := R.set (k := k) hlt (v - 1)
          have L1 := (HLw.out.below hB.out).set (k := k) (u := .int .i64 (v - 1)) (HNE.out p hlt)
          have hur := upd_range (rows := rows) HRR.out hlt HF.out.2.2 (by rw [hv0]; exact hv)
          rw [hv0] at hur
          have hu : upd rows p k (v - 1) p k = v - 1 := by unfold upd; rw [if_pos ⟨rfl, rfl⟩]
          have hrec := IH.out (at_ + 1) (by have := HF.out.1; omega) p (p : Int) (upd rows p k (v - 1)) _ (.inr ⟨by omega, rfl⟩) R1 hur
          unfold agg3 at hrec
          have z0 := L1 0 (by omega)
          have z1 := L1 1 (by omega)
          have z2 := L1 2 (by omega)
          simp only [Nat.zero_add] at z0 z1 z2
          have hat1 := wrap_nat (i := at_) (by have := HF.out; omega)
          obtain ⟨x, hx⟩ : ∃ x, nl s.size (ks.drop (at_ + 1)) p (upd rows p k (v - 1)) = x := ⟨_, rfl⟩
          have hxr := nl_range s.size (ks.drop (at_ + 1)) p (upd rows p k (v - 1))
          rw [hx] at hrec hxr
          have hx1 := wrap_self hxr.1 (by omega)
          have hx2 := wrap_one hxr.1 hxr.2
          have hmi0 := min_if best x
          have hmi1 := min_if best (1 + x)
          have hmn : ∀ y : Int, 0 ≤ y → 0 ≤ min best y ∧ min best y ≤ 1000 := fun y hy => min_range hbest.out.1 hbest.out.2 hy
          have HMN0 := hmn x hxr.1
          have HMN1 := hmn (1 + x) (by omega)
          have HRV := Aside0.mk R
          have HR1 := Aside0.mk R1
          have HL1 := Aside0.mk L1
          have HU := Aside0.mk hu
          have HREC := Aside0.mk hrec
          have HX := Aside0.mk hx
          have HVN := Aside0.mk hv
          have HM0 := Aside0.mk HMN0
          have HM1 := Aside0.mk HMN1
          clear hnext hv0 R R1 L1 hur hu hrec hx hxr hmn HMN0 HMN1 hv hrange hp hlt
          rcases HLA.out with ⟨ha, hla⟩ | ⟨ha, hla⟩
          · subst hla
            have HA := Aside0.mk ha
            clear ha
            go_wp2_with (first
              | (go_at_call 63; refine HREC.out.mono ?_; rintro e w2 ⟨rfl, hb2⟩; have cL2 := (HL1.out.below hb2) p HP.out; rw [Nat.zero_add] at cL2; have cR2 := (HR1.out.below hb2).cell HP.out HF.out.2.2; rw [HU.out] at cR2; have fr2 := (HR1.out.below hb2).thawed (k := k) HP.out; have HB2 := Aside0.mk hb2; clear hb2))
            go_roundg (3 - (p + 1))
            case measure => exact meas3 HP.out HGG.out
            case rel =>
              have hrs := HRV.out.restore HP.out HF.out.2.2 HB2.out
              rw [HV0.out] at hrs
              have hl := lp_next (fun p rows' => nl s.size (ks.drop (at_ + 1)) p rows') k (fun p => if 0 < at_ ∧ p ≠ last then 1 else 0) rows p best HP.out (by rw [HV0.out]; exact HVN.out)
              rw [HV0.out, HX.out] at hl
              have hpn : (if 0 < at_ ∧ p ≠ last then (1 : Int) else 0) = 0 := if_neg (fun z => absurd z.1 (by rw [HA.out]; exact Nat.lt_irrefl 0))
              simp only [hpn] at hl
              exact ⟨p + 1, min best x, rfl, by first | rfl | rw [HN.out], HP.out, Nat.le_refl _, Aside0.mk HM0.out, Aside0.mk (hB.out.trans (hrs.mono hB.out.size)), Aside0.mk (by rw [hres.out, hl]; rw [Int.zero_add])⟩
          · subst hla
            have hge : (0 ≤ (last : Int)) = True := eq_true (Int.natCast_nonneg _)
            have hge2 : decide (0 ≤ (last : Int)) = true := decide_eq_true (Int.natCast_nonneg _)
            have HA := Aside0.mk ha
            clear ha
            by_cases hl0 : p = last
            · have hl1 : ((last : Int) != (p : Int)) = false := by rw [hl0]; exact bne_self_eq_false _
              have hl2 : ((last : Int) == (p : Int)) = true := by rw [hl0]; exact beq_self_eq_true _
              have HL0 := Aside0.mk hl0
              clear hl0
              go_wp2_with (first
                | (go_at_call 63; refine HREC.out.mono ?_; rintro e w2 ⟨rfl, hb2⟩; have cL2 := (HL1.out.below hb2) p HP.out; rw [Nat.zero_add] at cL2; have cR2 := (HR1.out.below hb2).cell HP.out HF.out.2.2; rw [HU.out] at cR2; have fr2 := (HR1.out.below hb2).thawed (k := k) HP.out; have HB2 := Aside0.mk hb2; clear hb2))
              go_roundg (3 - (p + 1))
              case measure => exact meas3 HP.out HGG.out
              case rel =>
                have hrs := HRV.out.restore HP.out HF.out.2.2 HB2.out
                rw [HV0.out] at hrs
                have hl := lp_next (fun p rows' => nl s.size (ks.drop (at_ + 1)) p rows') k (fun p => if 0 < at_ ∧ p ≠ last then 1 else 0) rows p best HP.out (by rw [HV0.out]; exact HVN.out)
                rw [HV0.out, HX.out] at hl
                have hpn : (if 0 < at_ ∧ p ≠ last then (1 : Int) else 0) = 0 := if_neg (fun z => z.2 HL0.out)
                simp only [hpn] at hl
                exact ⟨p + 1, min best x, rfl, by first | rfl | rw [HN.out], HP.out, Nat.le_refl _, Aside0.mk HM0.out, Aside0.mk (hB.out.trans (hrs.mono hB.out.size)), Aside0.mk (by rw [hres.out, hl]; rw [Int.zero_add])⟩
            · have hl1 : ((last : Int) != (p : Int)) = true := bne_iff_ne.2 (fun z => hl0 (Int.ofNat.inj z).symm)
              have hl2 : ((last : Int) == (p : Int)) = false := beq_eq_false_iff_ne.2 (fun z => hl0 (Int.ofNat.inj z).symm)
              have HL0 := Aside0.mk hl0
              clear hl0
              go_wp2_with (first
                | (go_at_call 63; refine HREC.out.mono ?_; rintro e w2 ⟨rfl, hb2⟩; have cL2 := (HL1.out.below hb2) p HP.out; rw [Nat.zero_add] at cL2; have cR2 := (HR1.out.below hb2).cell HP.out HF.out.2.2; rw [HU.out] at cR2; have fr2 := (HR1.out.below hb2).thawed (k := k) HP.out; have HB2 := Aside0.mk hb2; clear hb2))
              go_roundg (3 - (p + 1))
              case measure => exact meas3 HP.out HGG.out
              case rel =>
                have hrs := HRV.out.restore HP.out HF.out.2.2 HB2.out
                rw [HV0.out] at hrs
                have hl := lp_next (fun p rows' => nl s.size (ks.drop (at_ + 1)) p rows') k (fun p => if 0 < at_ ∧ p ≠ last then 1 else 0) rows p best HP.out (by rw [HV0.out]; exact HVN.out)
                rw [HV0.out, HX.out] at hl
                have hpn : (if 0 < at_ ∧ p ≠ last then (1 : Int) else 0) = 1 := if_pos ⟨HA.out, HL0.out⟩
                simp only [hpn] at hl
                exact ⟨p + 1, min best (1 + x), rfl, by first | rfl | rw [HN.out], HP.out, Nat.le_refl _, Aside0.mk HM1.out, Aside0.mk (hB.out.trans (hrs.mono hB.out.size)), Aside0.mk (by rw [hres.out, hl])⟩
      · have hp3 : p = 3 := by omega
        have hz : ((p : Int) < 3) = False := eq_false (by omega)
        have hfin := hres.out
        rw [hp3] at hfin
        have HFN := Aside0.mk hfin
        clear hfin hgg hp hp3 hlt
        go_wp2
        go_ret
        exact ⟨by rw [HFN.out]; rfl, HB1.out.trans (hB.out.mono HB1.out.size)⟩
end Go.Proofs.YtafjjbkkcedgnaaDoorOwn
