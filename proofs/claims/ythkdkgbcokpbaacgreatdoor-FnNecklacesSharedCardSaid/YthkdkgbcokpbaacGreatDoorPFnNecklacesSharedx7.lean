-- Written by a program of this session (wip/tools/pp.sh) out of the translation; Lean checks it.
import Derived.Test.YthkdkgbcokpbaacGreatDoorPFnNecklacesSharedx0
import Derived.Test.YthkdkgbcokpbaacGreatDoorPFnNecklacesSharedx1
import Derived.Test.YthkdkgbcokpbaacGreatDoorPFnNecklacesSharedx2
import Derived.Test.YthkdkgbcokpbaacGreatDoorPFnNecklacesSharedx3
import Derived.Test.YthkdkgbcokpbaacGreatDoorPFnNecklacesSharedx5
import Derived.Test.YthkdkgbcokpbaacGreatDoorPFnNecklacesSharedx6
namespace Go.Proofs.YthkdkgbcokpbaacGreatDoor.PFnNecklacesShared
open Go.RowKit Go.Proofs.YthkdkgbcokpbaacGreatDoorOwn Go.Proofs.YthkdkgbcokpbaacGreatDoorW.PrintWords Go.Proofs.YthkdkgbcokpbaacGreatDoorW.PrintLast Go.Proofs.YthkdkgbcokpbaacGreatDoorW.PrintMore
attribute [local go_sem] max2_int min2_int max_two min_two max_three min_three max_four min_four   -- for this text's walks alone
set_option linter.unusedVariables false
set_option maxHeartbeats 8000000
set_option maxRecDepth 100000
set_option linter.unusedSimpArgs false

/-! ### impl_RenameBeads: function 20 (given) -/
/-- The bead that takes a bead's place. -/
def renB (l : List Int) (b : UInt8) : UInt8 := UInt8.ofNat (97 + (rd l ((b.toNat : Int) - 97)).toNat)
def impl_RenameBeads.f (a0 : ByteArray) (l1 : List Int) : Option (ByteArray × Bool) :=
 if l1.length ≤ 1099511627776 then (impl_IsNecklace.f a0).bind fun t =>
  if t = true then
   (if (l1.mergeSort fun x y => decide (x ≤ y)) = [0, 1, 2, 3] then
    (if a0.size ≤ 9223372036854775807 ∧ (a0.data.toList.all fun b => decide (97 ≤ b.toNat ∧ b.toNat < 101)) = true then some (⟨(a0.data.toList.map (renB l1)).toArray⟩, true) else none)
   else some ((⟨#[]⟩ : ByteArray), false))
  else some ((⟨#[]⟩ : ByteArray), false)
 else none
theorem ren_below_kept {w w1 w2 : World} {v : Value} (hb : Below w.heap.size w w1) (hbase : ∀ q, v.ownBlock = some q → w.heap.size ≤ q) (hos : w2.os = w1.os) (htp : w2.tape = w1.tape) (hout : w2.output = w1.output) (hK : Kept w1 w2 (fun k => some k = v.ownBlock)) : Below w.heap.size w w2 :=
 ⟨hos.trans hb.os, htp.trans hb.tape, hout.trans hb.output, Nat.le_trans hb.size hK.1, fun q hq => (hK.2 q (Nat.lt_of_lt_of_le hq hb.size) (fun e => by have := hbase q e.symm; omega)).trans (hb.block q hq)⟩
def encU (b : UInt8) : Value := .int .u8 (b.toNat : Int)
theorem ren_bytes_holds (w : World) (e : TypeId) (s : ByteArray) : Go.Sort.Holds encU (Go.Lib.bytesWorld w e s) w.heap.size 0 s.data.toList.toArray := by
 intro j hj
 have hj' : j < s.size := by simpa using hj
 have hl : j < s.data.toList.length := by simpa using hj
 refine ⟨?_, ?_⟩
 ·rw [Nat.zero_add, Go.Lib.bytesWorld_cell w e s j hj']
  have : s.data.toList.toArray[j]! = s.data.toList.getD j 0 := by
   rw [List.getD_eq_getElem?_getD, List.getElem?_eq_getElem hl, getElem!_pos s.data.toList.toArray j hj]; simp
  rw [this]; rfl
 ·have h := Go.Lib.bytesWorld_at_new w e s
  have hc : s.size ≤ (Go.Lib.bytesCells w e s).size := by simp [Go.Lib.bytesCells]
  rw [Nat.zero_add]
  unfold World.frozen?
  rw [h]
  simp
  omega
theorem sw_set {w0 W : World} {blk off : Nat} {dk : Array UInt8} (h : SW encU w0 blk off dk W) (hblk : blk < w0.heap.size) (i : Nat) (x : UInt8) (hi : i < dk.size) : SW encU w0 blk off (dk.setIfInBounds i x) (W.setCell ⟨blk, off + i, none⟩ (encU x)) := by
 obtain ⟨n, os, rfl⟩ := h
 refine ⟨n, os, ?_⟩
 unfold sortWorld
 rw [← Go.Sort.putRow_grow encU (Go.Sort.ahead w0 n) os blk off dk hblk, Go.Sort.putRow_set encU _ blk off dk i x hi, Go.Sort.putRow_grow encU (Go.Sort.ahead w0 n) os blk off _ hblk]
theorem sw_below {w w1 W : World} {e : TypeId} {s : ByteArray} {dk : Array UInt8} (hb : Below w.heap.size w w1) (h : SW encU (Go.Lib.bytesWorld w1 e s) w1.heap.size 0 dk W) : Below w.heap.size w W := by
 obtain ⟨n, os, rfl⟩ := h
 have hs := hb.size
 have hsz : (Go.Lib.bytesWorld w1 e s).heap.size = w1.heap.size + 1 := Go.Lib.bytesWorld_size w1 e s
 refine ⟨hb.os, hb.tape, hb.output, ?_, fun k hk => ?_⟩
 ·unfold sortWorld
  rw [Go.Sort.size_grow, Go.Sort.size_putRow]
  show w.heap.size ≤ (Go.Lib.bytesWorld w1 e s).heap.size + _
  omega
 ·have h1 : (sortWorld encU (Go.Lib.bytesWorld w1 e s) w1.heap.size 0 n dk os).heap[k]? = (Go.Lib.bytesWorld w1 e s).heap[k]? := by
   unfold sortWorld
   rw [Go.Sort.heap_grow_old _ os (by rw [Go.Sort.size_putRow]; show k < (Go.Lib.bytesWorld w1 e s).heap.size; omega)]
   unfold Go.Sort.putRow Go.Sort.mapBlock
   simp [Go.Sort.ahead, Array.getElem?_modify, show w1.heap.size ≠ k by omega]
  rw [h1, Go.Lib.bytesWorld_at_old w1 e s k (by omega)]
  exact hb.block k hk
/-- The bytes of a round. -/
def ren (l : List Int) (s : List UInt8) (i : Nat) : List UInt8 := (s.take i).map (renB l) ++ s.drop i
theorem ren_len (l : List Int) (s : List UInt8) (i : Nat) (h : i ≤ s.length) : (ren l s i).length = s.length := by unfold ren; simp; omega
theorem ren_at (l : List Int) (s : List UInt8) (i : Nat) (b : UInt8) (h : s[i]? = some b) : (ren l s i).toArray[i]! = b := by
 obtain ⟨h1, h2⟩ := List.getElem?_eq_some_iff.1 h
 have hl : i < (ren l s i).length := by rw [ren_len l s i (by omega)]; exact h1
 rw [getElem!_pos (ren l s i).toArray i (by simpa using hl)]
 have h3 : (ren l s i)[i]? = some b := by
  unfold ren
  rw [List.getElem?_append_right (by simp; omega)]
  simp [Nat.min_eq_left (Nat.le_of_lt h1), h]
 exact Option.some.inj ((List.getElem?_eq_getElem hl).symm.trans h3)
theorem ren_next (l : List Int) (s : List UInt8) (i : Nat) (b : UInt8) (h : s[i]? = some b) : (ren l s i).toArray.setIfInBounds i (renB l b) = (ren l s (i + 1)).toArray := by
 obtain ⟨h1, h2⟩ := List.getElem?_eq_some_iff.1 h
 apply Array.ext'
 rw [Array.toList_setIfInBounds]
 show (ren l s i).set i (renB l b) = ren l s (i + 1)
 unfold ren
 have hk : ((s.take i).map (renB l)).length = i := by simp; omega
 rw [List.set_append_right _ _ (by omega), hk, Nat.sub_self, List.drop_eq_getElem_cons h1, h2, List.set_cons_zero, List.take_add_one, h, List.map_append, List.append_assoc]
 rfl
theorem ren_back {w1 W : World} {l : List Int} {s : ByteArray} (h : SW encU (Go.Lib.bytesWorld w1 5 s) w1.heap.size 0 (ren l s.data.toList s.size).toArray W) :
  (convert 22 9 (.slice (some ⟨w1.heap.size, 0, none⟩) s.size (grownCap w1 s.size 0 5))).run Tryz.prog W = .ok (.string ⟨(s.data.toList.map (renB l)).toArray⟩) W := by
 have z0 : s.data.toList.length = s.size := Array.length_toList
 have e : ren l s.data.toList s.size = s.data.toList.map (renB l) := by
  unfold ren
  rw [List.take_of_length_le (by omega), List.drop_eq_nil_of_le (by omega), List.append_nil]
 rw [e] at h
 have z : (s.data.toList.map (renB l)).length = s.size := by rw [List.length_map]; exact z0
 have hlt : w1.heap.size < (Go.Lib.bytesWorld w1 5 s).heap.size := by rw [Go.Lib.bytesWorld_size]; omega
 have hH := SW.holds h hlt (ren_bytes_holds w1 5 s) (by simp)
 have h2 := run_convert_bytes_back (P := Tryz.prog) W 22 9 5 ⟨w1.heap.size, 0, none⟩ (grownCap w1 s.size 0 5) (s.data.toList.map (renB l)) Tryz.underlying22 Tryz.underlying5 Tryz.underlying9 (fun j hj => by
  rw [add_at]
  have := (hH j (by simpa using hj)).1
  rw [this, getElem!_pos (s.data.toList.map (renB l)).toArray j (by simpa using hj)]
  simp [encU])
 rw [z] at h2
 exact h2
set_option maxHeartbeats 4000000 in
set_option maxRecDepth 100000 in
theorem impl_RenameBeads.calls (a0 : ByteArray) (A1 : Option Addr) (c1 : Nat) (l1 : List Int) (r1 : ByteArray) (r2 : Bool) (w : World) (hr1 : Kd.C (Kd.int .i64) w A1 l1.length l1) (hc1 : l1.length ≤ c1) (h : impl_RenameBeads.f a0 l1 = some (r1, r2)) :
  Calls Tryz.prog 20 #[.string a0, .slice A1 l1.length c1] w fun e w' => e = .returned (.tuple #[.string r1, .bool r2]) ∧ Below w.heap.size w w' := by
 unfold impl_RenameBeads.f at h
 split at h
 ·rename_i hbig
  obtain ⟨t, ht, h2⟩ := Option.bind_eq_some_iff.mp h
  clear h
  have HT := Aside0.mk ht
  have HR1 := Aside0.mk hr1
  have HBIG := Aside0.mk hbig
  clear ht
  cases t with
  | false =>
   rw [if_neg (by decide)] at h2
   obtain ⟨rfl, rfl⟩ := Prod.mk.injEq .. ▸ Option.some.inj h2
   clear hr1 hbig h2
   go_enter Tryz.func20, Tryz.ntmps20
   go_wp2_with (first
    | (go_at_call 44; refine (cloneI HR1.out HBIG.out).mono ?_; rintro e w1 ⟨v0, rfl, hS, hb⟩; have HS := Aside0.mk hS; have HB1 := Aside0.mk hb; clear hS hb)
    | (go_at_call 45; refine (sortI HS.out HBIG.out).mono ?_; rintro e w2 ⟨rfl, hS2, hos, htp, hout, hK⟩; have HS2 := Aside0.mk hS2; have HB2 := Aside0.mk (ren_below_kept HB1.out (fun q hq => Kd.R_base HS.out q hq) hos htp hout hK); clear hS2 hos htp hout hK)
    | (go_at_call 15; refine (impl_IsNecklace.calls a0 false w2 HT.out).mono ?_; rintro e w3 ⟨rfl, hb⟩; have HB3 := Aside0.mk (HB2.out.trans (hb.mono HB2.out.size)); clear hb))
   go_ret2
   exact ⟨rfl, HB3.out⟩
  | true =>
   rw [if_pos rfl] at h2
   by_cases hm : (l1.mergeSort fun x y => decide (x ≤ y)) = [0, 1, 2, 3]
   ·rw [if_pos hm] at h2
    split at h2
    ·rename_i hc
     obtain ⟨rfl, rfl⟩ := Prod.mk.injEq .. ▸ Option.some.inj h2
     have hlen : l1.length = 4 := by have := congrArg List.length hm; simpa using this
     have hrange : ∀ k : Nat, k < 4 → ∃ x : Int, l1[k]? = some x ∧ rd l1 (k : Int) = x ∧ 0 ≤ x ∧ x ≤ 3 := fun k hk => by
      have hlt : k < l1.length := by omega
      refine ⟨l1[k], List.getElem?_eq_getElem hlt, ?_, ?_⟩
      ·unfold rd; rw [Int.toNat_natCast, List.getD_eq_getElem?_getD, List.getElem?_eq_getElem hlt]; rfl
      ·have h3 : l1[k] ∈ (l1.mergeSort fun x y => decide (x ≤ y)) := List.mem_mergeSort.2 (List.getElem_mem hlt)
       rw [hm] at h3
       simp at h3
       omega
     obtain ⟨b1, o1, hA, hcn⟩ := readsI hr1 (by omega)
     subst hA
     have hd : decide ((l1.mergeSort fun x y => decide (x ≤ y)) = [0, 1, 2, 3]) = true := decide_eq_true hm
     have HD := Aside0.mk hd
     have HN := Aside0.mk hcn
     have HRG := Aside0.mk hrange
     have HC := Aside0.mk hc
     have z0 : a0.data.toList.length = a0.size := Array.length_toList
     have Z0 := Aside0.mk z0
     clear hr1 hbig h2 hd hm hcn hrange hc z0 hlen
     have conv := fun w : World => Go.Lib.run_convert_string_bytes w 9 22 5 a0 Tryz.underlying9 Tryz.underlying22 Tryz.underlying5
     go_enter Tryz.func20, Tryz.ntmps20
     go_wp2_with (first
      | (go_at_call 44; refine (cloneI HR1.out HBIG.out).mono ?_; rintro e w1 ⟨v0, rfl, hS, hb⟩; have HS := Aside0.mk hS; have HB1 := Aside0.mk hb; clear hS hb)
      | (go_at_call 45; refine (sortI HS.out HBIG.out).mono ?_; rintro e w2 ⟨rfl, hS2, hos, htp, hout, hK⟩; obtain ⟨A2, c2, hv2⟩ := Kd.R_slice hS2; have HS2 := Aside0.mk hS2; have HB2 := Aside0.mk (ren_below_kept HB1.out (fun q hq => Kd.R_base HS.out q hq) hos htp hout hK); clear hS2 hos htp hout hK; subst hv2)
      | (go_at_call 15; refine (impl_IsNecklace.calls a0 true w2 HT.out).mono ?_; rintro e w3 ⟨rfl, hb⟩; have HB4 := Aside0.mk hb; have HB3 := Aside0.mk (HB2.out.trans (hb.mono HB2.out.size)); clear hb)
      | (go_at_call 46; refine (equal_four HS2.out HB4.out HD.out).mono ?_; rintro e w4 ⟨rfl, hb⟩; have HB5 := Aside0.mk (HB3.out.trans (hb.mono HB3.out.size)); clear hb))
     go_loopg [8, 26] a0.size (fun gg _ s26 wr => ∃ i : Nat, s26 = .int .i64 i ∧ i ≤ a0.size ∧ a0.size - i ≤ gg ∧ Aside0 (SW encU (Go.Lib.bytesWorld w4 5 a0) w4.heap.size 0 (ren l1 a0.data.toList i).toArray wr))
     case atStart => exact ⟨0, rfl, Nat.zero_le _, by omega, Aside0.mk (SW.start (ren_bytes_holds w4 5 a0))⟩
     case round =>
      obtain ⟨i, rfl, hi, hgg, hsw⟩ := hrel
      by_cases hlt : i < a0.size
      ·have hltz : (i : Int) < (a0.size : Int) := by omega
       have hblk : w4.heap.size < (Go.Lib.bytesWorld w4 5 a0).heap.size := by rw [Go.Lib.bytesWorld_size]; omega
       obtain ⟨b, hg⟩ : ∃ b, a0.data.toList[i]? = some b := ⟨_, List.getElem?_eq_getElem (by rw [Z0.out]; exact hlt)⟩
       obtain ⟨k, hk4, hbk⟩ : ∃ k : Nat, k < 4 ∧ b.toNat = 97 + k := by
        have := of_decide_eq_true (List.all_eq_true.1 HC.out.2 b (List.mem_of_getElem? hg))
        exact ⟨b.toNat - 97, by omega, by omega⟩
       obtain ⟨x, hx1, hx2, hx3, hx4⟩ := HRG.out k hk4
       have hds : (ren l1 a0.data.toList i).toArray.size = a0.size := by simp [ren_len l1 a0.data.toList i (by rw [Z0.out]; exact hi), Z0.out]
       obtain ⟨ci, fi⟩ := SW.holds hsw.out hblk (ren_bytes_holds w4 5 a0) (by rw [hds]; simp [Z0.out]) i (by rw [hds]; exact hlt)
       rw [ren_at l1 a0.data.toList i b hg, Nat.zero_add] at ci
       rw [Nat.zero_add] at fi
       have hu : encU b = .int .u8 (97 + (k : Int)) := by unfold encU; rw [hbk]; rfl
       rw [hu] at ci
       have cn : wr.cell? ⟨b1, o1 + k, none⟩ = some (.int .i64 x) := ((sw_below HB5.out hsw.out).cell (cell_lt (HN.out k x hx1))).trans (HN.out k x hx1)
       have hk1 : (97 + (k : Int) - 97) % 256 = (k : Int) := by omega
       have hk2 : (k : Int) % 256 = (k : Int) := by omega
       have hk0 : 0 ≤ (k : Int) := by omega
       have hk3 : (k : Int) < (l1.length : Int) := by have := (List.getElem?_eq_some_iff.1 hx1).1; omega
       have HG := Aside0.mk hg
       have HBK := Aside0.mk hbk
       have HX2 := Aside0.mk hx2
       clear hg hbk hx1 hx2 hu
       have hv : encU (renB l1 b) = .int .u8 (97 + x) := by
        unfold encU renB
        rw [HBK.out, show (((97 + k : Nat) : Int) - 97) = (k : Int) by omega, HX2.out]
        have e9 : (UInt8.ofNat (97 + x.toNat)).toNat = 97 + x.toNat := by
         rw [UInt8.toNat_ofNat']; omega
        rw [e9]
        congr 1
        omega
       have h5 := sw_set hsw.out hblk i (renB l1 b) (by rw [hds]; exact hlt)
       rw [ren_next l1 a0.data.toList i b HG.out, Nat.zero_add, hv] at h5
       have H5 := Aside0.mk h5
       clear h5 hv
       go_wp2
       go_roundg (a0.size - (i + 1))
       case measure => omega
       case rel =>
        have hw : wrap64 ((i : Int) + 1) = ((i + 1 : Nat) : Int) := by
         have := HC.out.1
         unfold wrap64
         omega
        exact ⟨i + 1, by rw [hw], hlt, Nat.le_refl _, Aside0.mk (by first | exact H5.out | exact SW.drewN H5.out _)⟩
      ·have hie : i = a0.size := by omega
       subst hie
       have hltz : ¬ (a0.size : Int) < (a0.size : Int) := by omega
       have back := ren_back hsw.out
       go_wp2
       go_ret2
       exact ⟨rfl, sw_below HB5.out hsw.out⟩
    ·cases h2
   ·rw [if_neg hm] at h2
    obtain ⟨rfl, rfl⟩ := Prod.mk.injEq .. ▸ Option.some.inj h2
    have hd : decide ((l1.mergeSort fun x y => decide (x ≤ y)) = [0, 1, 2, 3]) = false := decide_eq_false hm
    have HD := Aside0.mk hd
    clear hr1 hbig h2 hd hm
    go_enter Tryz.func20, Tryz.ntmps20
    go_wp2_with (first
     | (go_at_call 44; refine (cloneI HR1.out HBIG.out).mono ?_; rintro e w1 ⟨v0, rfl, hS, hb⟩; have HS := Aside0.mk hS; have HB1 := Aside0.mk hb; clear hS hb)
     | (go_at_call 45; refine (sortI HS.out HBIG.out).mono ?_; rintro e w2 ⟨rfl, hS2, hos, htp, hout, hK⟩; obtain ⟨A2, c2, hv2⟩ := Kd.R_slice hS2; have HS2 := Aside0.mk hS2; have HB2 := Aside0.mk (ren_below_kept HB1.out (fun q hq => Kd.R_base HS.out q hq) hos htp hout hK); clear hS2 hos htp hout hK; subst hv2)
     | (go_at_call 15; refine (impl_IsNecklace.calls a0 true w2 HT.out).mono ?_; rintro e w3 ⟨rfl, hb⟩; have HB4 := Aside0.mk hb; have HB3 := Aside0.mk (HB2.out.trans (hb.mono HB2.out.size)); clear hb)
     | (go_at_call 46; refine (equal_four HS2.out HB4.out HD.out).mono ?_; rintro e w4 ⟨rfl, hb⟩; have HB5 := Aside0.mk (HB3.out.trans (hb.mono HB3.out.size)); clear hb))
    go_ret2
    exact ⟨rfl, HB5.out⟩
 ·cases h

/-! ### impl_CountSplits: function 21 (given) -/
def impl_CountSplits.f (k : Nat) (a0 : ByteArray) (a1 : Int) : Option (Int × Bool) := (impl_IsNecklace.f a0).bind fun t217 => (if t217 = true then ((impl_in.f a1 0 4).bind fun t218 => (if t218 = true then ((impl_fairCuts.f k a0 a1).bind fun t219 => (some ((t219.length : Int), true))) else (some (0, false)))) else (some (0, false)))
theorem impl_CountSplits.mono : ∀ a0 a1 k, LeO (impl_CountSplits.f k a0 a1) (impl_CountSplits.f (k + 1) a0 a1) := by
 intro a0 a1 k
 unfold impl_CountSplits.f
 refine LeO.bind (LeO.refl _) (fun _ => LeO.ite (LeO.bind (LeO.refl _) (fun _ => LeO.ite (LeO.bind (impl_fairCuts.mono _ _ _) (fun _ => LeO.refl _)) (LeO.refl _))) (LeO.refl _))
set_option maxHeartbeats 4000000 in
set_option maxRecDepth 100000 in
theorem impl_CountSplits.calls (k : Nat) (a0 : ByteArray) (a1 : Int) (r1 : Int) (r2 : Bool) (w : World) (h : impl_CountSplits.f k a0 a1 = some (r1, r2)) :
  Calls Tryz.prog 21 #[.string a0, .int .i64 a1] w fun e w' => e = .returned (.tuple #[.int .i64 r1, .bool r2]) ∧ Below w.heap.size w w' := by
 unfold impl_CountSplits.f at h
 obtain ⟨t217, A30, H⟩ := Option.bind_eq_some_iff.mp h
 clear h
 have A3 := Aside0.mk A30
 clear A30
 cases t217 with
 | false =>
  rw [if_neg (by decide)] at H
  obtain ⟨rfl, rfl⟩ := Prod.mk.injEq .. ▸ Option.some.inj H
  clear H
  go_enter Tryz.func21, Tryz.ntmps21
  go_wp2_with (first
    | (go_at_call 15; refine (impl_IsNecklace.calls a0 false w A3.out).mono ?_; rintro e w1 ⟨rfl, hb⟩; have HB1 := Aside0.mk hb; clear hb))
  go_ret2
  exact ⟨rfl, HB1.out⟩
 | true =>
  rw [if_pos rfl] at H
  replace H := EA H
  obtain ⟨t218, A5, H⟩ := H
  cases t218 with
  | false =>
   rw [if_neg (by decide)] at H
   obtain ⟨rfl, rfl⟩ := Prod.mk.injEq .. ▸ Option.some.inj H
   clear H
   go_enter Tryz.func21, Tryz.ntmps21
   go_wp2_with (first
    | (go_at_call 15; refine (impl_IsNecklace.calls a0 true w A3.out).mono ?_; rintro e w1 ⟨rfl, hb⟩; have HB1 := Aside0.mk hb; clear hb)
    | (go_at_call 47; refine (impl_in.calls a1 0 4 false w1 A5.out).mono ?_; rintro e w2 ⟨rfl, hb⟩; have HB2 := Aside0.mk (HB1.out.trans (hb.below.mono HB1.out.size)); clear hb))
   go_ret2
   exact ⟨rfl, HB2.out⟩
  | true =>
   rw [if_pos rfl] at H
   replace H := EA H
   obtain ⟨t219, A7, H⟩ := H
   obtain ⟨rfl, rfl⟩ := Prod.mk.injEq .. ▸ Option.some.inj H
   clear H
   go_enter Tryz.func21, Tryz.ntmps21
   go_wp2_with (first
    | (go_at_call 15; refine (impl_IsNecklace.calls a0 true w A3.out).mono ?_; rintro e w1 ⟨rfl, hb⟩; have HB1 := Aside0.mk hb; clear hb)
    | (go_at_call 47; refine (impl_in.calls a1 0 4 true w1 A5.out).mono ?_; rintro e w2 ⟨rfl, hb⟩; have HB2 := Aside0.mk (HB1.out.trans (hb.below.mono HB1.out.size)); clear hb)
    | (go_at_call 48; refine (impl_fairCuts.calls k a0 a1 t219 w2 A7.out).mono ?_; rintro e w3 ⟨A9, c9, rfl, _, hb⟩; have HB3 := Aside0.mk (HB2.out.trans (hb.mono HB2.out.size)); clear hb))
   go_ret2
   exact ⟨rfl, HB3.out⟩

/-! ### spec_l1Cur_among: function 50 -/
def spec_l1Cur_among.f (s0_0 : List Int) (s0_1 : Int) (s0_2 : Int) (l1 : List Int) : Option (Int × Int × Int) := (spec_l1Cur_pick.f s0_0 s0_1 s0_2 (l1.length : Int)).bind fun bt298 => (if 0 ≤ bt298.1 then (if bt298.1 < (l1.length : Int) then (some (rd l1 bt298.1, bt298.2.1, bt298.2.2)) else (none)) else (none))
theorem spec_l1Cur_among.calls (g : Nat) (s0_0 : List Int) (s0_1 : Int) (s0_2 : Int) (A1 : Option Addr) (c1 : Nat) (l1 : List Int) (r1 : Int) (r2 : Int) (r3 : Int) (w0 w : World) (hI : IsS58 w0 w g s0_0 s0_1 s0_2) (hB : Below w0.heap.size w0 w) (hr1 : Kd.C (Kd.int .i64) w A1 l1.length l1) (hc1 : l1.length ≤ c1) (hf1 : ∀ ad, A1 = some ad → 0 < l1.length → ad.block ≠ g) (h : spec_l1Cur_among.f s0_0 s0_1 s0_2 l1 = some (r1, r2, r3)) :
  Calls Tryz.prog 50 #[.pointer (some ⟨g, 0, none⟩), .slice A1 l1.length c1] w fun e w' => e = .returned (.int .i64 r1) ∧ IsS58 w0 w' g s0_0 r2 r3 ∧ Below w0.heap.size w0 w' ∧ KeepBut w w' g none := by
 have HR1 := Aside0.mk hr1
 have HC1 := Aside0.mk hc1
 clear hr1 hc1
 have HI0 := Aside0.mk hI
 have HK := Aside0.mk (KeepBut.refl w g none)
 have HL := Aside0.mk hB.size
 clear hI
 have HW0 := Aside0.mk hB.size
 have HB := Aside0.mk hB
 clear hB
 have H : ((spec_l1Cur_pick.f s0_0 s0_1 s0_2 (l1.length : Int)).bind fun bt298 => (if 0 ≤ bt298.1 then (if bt298.1 < (l1.length : Int) then (some (rd l1 bt298.1, bt298.2.1, bt298.2.2)) else (none)) else (none))) = some (r1, r2, r3) := h
 clear h
 replace H := EA H
 obtain ⟨⟨t298, t299, t300⟩, A3, H⟩ := H
 try dsimp only at H
 by_cases c4 : 0 ≤ t298
 ·rw [if_pos c4] at H
  have c4b0 : decide (0 ≤ t298) = true := decide_eq_true c4
  clear c4
  by_cases c5 : t298 < (l1.length : Int)
  ·rw [if_pos c5] at H
   have c5b0 : decide (t298 < (l1.length : Int)) = true := decide_eq_true c5
   clear c5
   simp only [Option.some.injEq, Prod.mk.injEq] at H
   obtain ⟨rfl, rfl, rfl⟩ := H
   go_enter Tryz.func50, Tryz.ntmps50
   go_wp2_with (first | ((with_reducible refine gate_callee (f := 53) rfl ?_); refine goesL_ (some 9) rfl rfl Tryz.func53 (by kernel_rfl) rfl #[.pointer (some ⟨g, 0, none⟩), .int .i64 (l1.length : Int)] rfl TA ?_; (with_reducible refine (spec_l1Cur_pick.calls g s0_0 s0_1 s0_2 (l1.length : Int) t298 t299 t300 w0 _ ?side1 ?side2 A3.out).mono ?_); (case side1 => repeat (first | (with_reducible first | exact HI0.out | apply IsS58.alloc | apply IsS58.drewN | apply IsS58.drew | apply IsS58.set_1 | apply IsS58.set_2) | exact HI0.out)); (case side2 => repeat (first | (with_reducible first | exact HB.out | apply below_alloc | apply pw_below_drewN | apply below_drew1 | refine below_set ?_ (IsS58.ge HI0.out)) | exact HB.out)); rintro e w6 ⟨rfl, hi, hb, hk⟩; refine ⟨_, rfl, ?_⟩; have n0_ := Aside0.mk (KeepBut.trans (by repeat (first | (with_reducible first | exact HK.out | apply KeepBut.set_ | apply keep_drewN | apply keep_drew | apply keep_alloc) | exact HK.out)) hk (.inl rfl)); have n1_ := Aside0.mk (hb); have n2_ := Aside0.mk (hi); clear HK; clear HB; clear HI0; have HK := n0_; have HB := n1_; have HI0 := n2_; clear n0_ n1_ n2_; (try clear hb); (try clear hb2); (try clear hk); (try clear hi); have p301 : 0 ≤ (t298 : Int) := of_decide_eq_true AS; have q301 : t298 < (l1.length : Int) := of_decide_eq_true AS; obtain ⟨ad301, e301, hx301_0⟩ := Kd.at_int HR1.out t298 p301 q301; cases e301; replace hx301_0 := keep_cell HK.out hx301_0 (by first | (rw [add_block]; exact hf1 _ rfl (by omega)) | exact hf1 _ rfl (by omega) | exact hf1 ad301 rfl (by omega)); replace p301 := eq_true p301; replace q301 := eq_true q301))
   go_ret
   exact ⟨RE, by repeat (first | (with_reducible first | exact HI0.out | apply IsS58.alloc | apply IsS58.drewN | apply IsS58.drew | apply IsS58.set_1 | apply IsS58.set_2) | exact HI0.out), by repeat (first | (with_reducible first | exact HB.out | apply below_alloc | apply pw_below_drewN | apply below_drew1 | refine below_set ?_ (IsS58.ge HI0.out)) | exact HB.out), by repeat (first | (with_reducible first | exact HK.out | apply KeepBut.set_ | apply keep_drewN | apply keep_drew | apply keep_alloc) | exact HK.out)⟩
  ·rw [if_neg c5] at H
   cases H
 ·rw [if_neg c4] at H
  cases H

/-! ### spec_DrawCountSplits: function 22 -/
def spec_DrawCountSplits.f (k : Nat) (l0 : List Int) : Option (ByteArray × Int) := (spec_l1Cur_beads.f k l0 0 0 10).bind fun bt303 => ((spec_l1Cur_among.f l0 bt303.2.1 bt303.2.2 (([0, 1, 2, 3, 4, 5, (-1)] : List Int))).bind fun bt309 => (some (bt303.1, bt309.1)))
theorem spec_DrawCountSplits.mono : ∀ a0 k, LeO (spec_DrawCountSplits.f k a0) (spec_DrawCountSplits.f (k + 1) a0) := by
 intro a0 k
 unfold spec_DrawCountSplits.f
 repeat' first
   | with_reducible first | exact spec_l1Cur_beads.mono _ _ _ _ _ | exact LeO.refl _ | exact LeO.none _ | refine LeO.ite ?_ ?_ | refine LeO.bind ?_ (fun _ => ?_)
   | exact LeO.none _ | refine LeO.ite ?_ ?_ | refine LeO.bind ?_ (fun _ => ?_)
theorem spec_DrawCountSplits.calls (k : Nat) (A0 : Option Addr) (c0 : Nat) (l0 : List Int) (r1 : ByteArray) (r2 : Int) (w : World) (hr0 : Kd.C (Kd.int .u8) w A0 l0.length l0) (hc0 : l0.length ≤ c0) (h : spec_DrawCountSplits.f k l0 = some (r1, r2)) :
  Calls Tryz.prog 22 #[.slice A0 l0.length c0] w fun e w' => e = .returned (.tuple #[.string r1, .int .i64 r2]) ∧ Below w.heap.size w w' := by
 have hu58 := Tryz.underlying58
 have HR0 := Aside0.mk hr0
 have HC0 := Aside0.mk hc0
 clear hr0 hc0
 have HB := Aside0.mk (Below.refl w.heap.size w)
 have H : ((spec_l1Cur_beads.f k l0 0 0 10).bind fun bt303 => ((spec_l1Cur_among.f l0 bt303.2.1 bt303.2.2 (([0, 1, 2, 3, 4, 5, (-1)] : List Int))).bind fun bt309 => (some (bt303.1, bt309.1)))) = some (r1, r2) := h
 clear h
 replace H := EA H
 obtain ⟨⟨t303, t304, t305⟩, A2, H⟩ := H
 try dsimp only at H
 obtain ⟨y306, hy306⟩ : ∃ y_ : List Int, y_ = (([0, 1, 2, 3, 4, 5, (-1)] : List Int)) := ⟨_, rfl⟩
 replace H : ((spec_l1Cur_among.f l0 t304 t305 y306).bind fun bt309 => (some (t303, bt309.1))) = some (r1, r2) := HY H hy306
 have Ny306 := Aside0.mk hy306
 clear hy306
 replace H := EA H
 obtain ⟨⟨t309, t310, t311⟩, A3, H⟩ := H
 try dsimp only at H
 simp only [Option.some.injEq, Prod.mk.injEq] at H
 obtain ⟨rfl, rfl⟩ := H
 go_enter Tryz.func22, Tryz.ntmps22
 go_wp2_with (first | ((with_reducible refine gate_dst (N := 7) rfl ?_); refine box_event ?hg (N := 7) ?hd (cs := #[.slice A0 l0.length c0, .int .i64 0, .int .u64 0]) (t := 58) ?hr ?_; (case hd => rfl); (case hg => rfl); (case hr => exact GS); intro gb302 hg w4 hbox hb; have n0_ := Aside0.mk (below_step BB hb); have n1_ := Aside0.mk ((by rw [hg]; exact (below_size BB) : w.heap.size ≤ gb302)); have n2_ := Aside0.mk ((by rw [hg]; exact (below_size BB) : w.heap.size ≤ gb302)); have n3_ := Aside0.mk ((show IsS58 w w4 gb302 l0 0 0 from ⟨A0, c0, hbox, (by rw [hg]; exact (below_size BB) : w.heap.size ≤ gb302), HR0.out⟩)); clear HB; have HB := n0_; have GW302 := n1_; have GE302 := n2_; have HI302 := n3_; clear n0_ n1_ n2_ n3_; clear hb hbox hg) | ((with_reducible refine gate_callee (f := 49) rfl ?_); refine goesL_ (some 9) rfl rfl Tryz.func49 (by kernel_rfl) rfl #[.pointer (some ⟨gb302, 0, none⟩), .int .i64 10] rfl TA ?_; (with_reducible refine (spec_l1Cur_beads.calls k gb302 l0 0 0 10 t303 t304 t305 w _ ?side1 ?side2 A2.out).mono ?_); (case side1 => repeat (first | (with_reducible first | exact HI302.out | apply IsS58.alloc | apply IsS58.drewN | apply IsS58.drew | apply IsS58.set_1 | apply IsS58.set_2) | exact HI302.out)); (case side2 => repeat (first | (with_reducible first | exact HB.out | apply below_alloc | apply pw_below_drewN | apply below_drew1 | refine below_set ?_ (IsS58.ge HI302.out)) | exact HB.out)); rintro e w5 ⟨rfl, hi, hb, hk⟩; refine ⟨_, rfl, ?_⟩; have n0_ := Aside0.mk (hb); have n1_ := Aside0.mk (hi); clear HB; clear HI302; have HB := n0_; have HI302 := n1_; clear n0_ n1_; (try clear hb); (try clear hb2); (try clear hk); (try clear hi)) | ((with_reducible refine gate_dst (N := 11) rfl ?_); refine Kd.R_lit (Kd.int .i64) _ 3 ?hg (N := 11) ?hd (xs := ([0, 1, 2, 3, 4, 5, (-1)] : List Int)) (inner := [.int .i64 0, .int .i64 1, .int .i64 2, .int .i64 3, .int .i64 4, .int .i64 5, .int .i64 (-1)]) (ok := fun _ => True) (okp := fun _ => True) ?hr ?hp (fun _ hk => hk) trivial (Below.refl _ _) (Nat.le_refl _) (by simp) ?_; (case hd => rfl); (case hg => rfl); (case hr => exact GS); (case hp => exact (Reps.one (show Kd.M (Kd.int .i64) _ _ _ 0 [.int .i64 0] from rfl) (Reps.one (show Kd.M (Kd.int .i64) _ _ _ 1 [.int .i64 1] from rfl) (Reps.one (show Kd.M (Kd.int .i64) _ _ _ 2 [.int .i64 2] from rfl) (Reps.one (show Kd.M (Kd.int .i64) _ _ _ 3 [.int .i64 3] from rfl) (Reps.one (show Kd.M (Kd.int .i64) _ _ _ 4 [.int .i64 4] from rfl) (Reps.one (show Kd.M (Kd.int .i64) _ _ _ 5 [.int .i64 5] from rfl) (Reps.one (show Kd.M (Kd.int .i64) _ _ _ (-1) [.int .i64 (-1)] from rfl) (Reps.none _ _))))))))); intro v307 w6 ho7 hb hg_ hnew_; clear hg_ hnew_; (first | rw [← Ny306.out] at ho7 | (simp only [Int.reduceToNat] at ho7; rw [← Ny306.out] at ho7)); have n0_ := Aside0.mk (Kd.R_lower ho7 (below_size (by repeat (first | (with_reducible first | exact HB.out | apply below_alloc | apply pw_below_drewN | apply below_drew1 | refine below_set ?_ (IsS58.ge HI302.out)) | exact HB.out)))); have n1_ := Aside0.mk (IsS58.below (by repeat (first | (with_reducible first | exact HI302.out | apply IsS58.alloc | apply IsS58.drewN | apply IsS58.drew | apply IsS58.set_1 | apply IsS58.set_2) | exact HI302.out)) hb); have n2_ := Aside0.mk (below_step (by repeat (first | (with_reducible first | exact HB.out | apply below_alloc | apply pw_below_drewN | apply below_drew1 | refine below_set ?_ (IsS58.ge HI302.out)) | exact HB.out)) hb); clear HI302; clear HB; have HO308 := n0_; have HI302 := n1_; have HB := n2_; clear n0_ n1_ n2_; clear hb ho7; obtain ⟨Ao8, co8, eo8⟩ := Kd.R_slice HO308.out; subst eo8) | ((with_reducible refine gate_callee (f := 50) rfl ?_); refine goesL_ (some 12) rfl rfl Tryz.func50 (by kernel_rfl) rfl #[.pointer (some ⟨gb302, 0, none⟩), .slice Ao8 y306.length co8] rfl TA ?_; (with_reducible refine (spec_l1Cur_among.calls gb302 l0 t304 t305 _ _ y306 t309 t310 t311 w _ ?side1 ?side2 ?side3 ?side4 ?side5 A3.out).mono ?_); (case side1 => repeat (first | (with_reducible first | exact HI302.out | apply IsS58.alloc | apply IsS58.drewN | apply IsS58.drew | apply IsS58.set_1 | apply IsS58.set_2) | exact HI302.out)); (case side2 => repeat (first | (with_reducible first | exact HB.out | apply below_alloc | apply pw_below_drewN | apply below_drew1 | refine below_set ?_ (IsS58.ge HI302.out)) | exact HB.out)); (case side3 => exact CW (Kd.R_reads' HO308.out).2.2); (case side4 => exact (Kd.R_reads' HO308.out).2.1); (case side5 => exact far_slice (IsS58.own_ne HI302.out HO308.out (by decide))); rintro e w9 ⟨rfl, hi, hb, hk⟩; refine ⟨_, rfl, ?_⟩; have n0_ := Aside0.mk (Kd.R_mono (Kd.R_keep (IsS58.apart (show IsS58 w _ gb302 l0 t304 t305 from by repeat (first | (with_reducible first | exact HI302.out | apply IsS58.alloc | apply IsS58.drewN | apply IsS58.drew | apply IsS58.set_1 | apply IsS58.set_2) | exact HI302.out)) (KR HO308) (by decide)) hk (fun _ h => h.2)) (fun _ h => h.1)); have n1_ := Aside0.mk (hb); have n2_ := Aside0.mk (hi); clear HO308; clear HB; clear HI302; have HO308 := n0_; have HB := n1_; have HI302 := n2_; clear n0_ n1_ n2_; (try clear hb); (try clear hb2); (try clear hk); (try clear hi)))
 go_ret2
 exact ⟨RE, by repeat (first | (with_reducible first | exact HB.out | apply below_alloc | apply pw_below_drewN | apply below_drew1 | refine below_set ?_ (IsS58.ge HI302.out)) | exact HB.out)⟩

/-! ### spec_l1In: function 51 -/
def spec_l1In.f (a0 : Int) (a1 : Int) (a2 : Int) : Option (Bool) := if a0 ≥ a1 then (some (decide (a0 ≤ a2))) else (some false)
theorem spec_l1In.calls (a0 : Int) (a1 : Int) (a2 : Int) (r : Bool) (w : World) (h : spec_l1In.f a0 a1 a2 = some r) :
  Calls Tryz.prog 51 #[.int .i64 a0, .int .i64 a1, .int .i64 a2] w fun e w' => e = .returned (.bool r) ∧ Drawn0 w w' := by
 have H : (if a0 ≥ a1 then (some (decide (a0 ≤ a2))) else (some false)) = some r := h
 clear h
 by_cases c4 : a0 ≥ a1
 ·rw [if_pos c4] at H
  have c4b0 : decide (a1 ≤ a0) = true := decide_eq_true c4
  clear c4
  obtain rfl := Option.some.inj H
  go_enter Tryz.func51, Tryz.ntmps51
  go_wp2
  go_ret
  exact ⟨RF, DR⟩
 ·rw [if_neg c4] at H
  have c4b0 : decide (a1 ≤ a0) = false := decide_eq_false c4
  clear c4
  obtain rfl := Option.some.inj H
  go_enter Tryz.func51, Tryz.ntmps51
  go_wp2
  go_ret
  exact ⟨RF, DR⟩

/-! ### spec_CountSplits: function 23 -/
def spec_CountSplits.f (k : Nat) (a0 : ByteArray) (a1 : Int) : Option (Int × Bool) := (spec_nlGood.f k a0).bind fun t312 => (if t312 = true then ((spec_l1In.f a1 0 4).bind fun t313 => (if t313 = true then ((spec_nlSplits.f k a0 ([] : List Int) a1).bind fun bt314 => (some (bt314.2, true))) else (some (0, false)))) else (some (0, false)))
theorem spec_CountSplits.mono : ∀ a0 a1 k, LeO (spec_CountSplits.f k a0 a1) (spec_CountSplits.f (k + 1) a0 a1) := by
 intro a0 a1 k
 unfold spec_CountSplits.f
 repeat' first
   | with_reducible first | exact spec_nlGood.mono _ _ | exact spec_nlSplits.mono _ _ _ _ | exact LeO.refl _ | exact LeO.none _ | refine LeO.ite ?_ ?_ | refine LeO.bind ?_ (fun _ => ?_)
   | exact LeO.none _ | refine LeO.ite ?_ ?_ | refine LeO.bind ?_ (fun _ => ?_)
theorem spec_CountSplits.calls (k : Nat) (a0 : ByteArray) (a1 : Int) (r1 : Int) (r2 : Bool) (w : World) (h : spec_CountSplits.f k a0 a1 = some (r1, r2)) :
  Calls Tryz.prog 23 #[.string a0, .int .i64 a1] w fun e w' => e = .returned (.tuple #[.int .i64 r1, .bool r2]) ∧ Below w.heap.size w w' := by
 have HB := Aside0.mk (Below.refl w.heap.size w)
 have H : ((spec_nlGood.f k a0).bind fun t312 => (if t312 = true then ((spec_l1In.f a1 0 4).bind fun t313 => (if t313 = true then ((spec_nlSplits.f k a0 ([] : List Int) a1).bind fun bt314 => (some (bt314.2, true))) else (some (0, false)))) else (some (0, false)))) = some (r1, r2) := h
 clear h
 replace H := EA H
 obtain ⟨t312, A3, H⟩ := H
 by_cases c4 : t312 = true
 ·subst c4
  replace H := IP H
  replace H := EA H
  obtain ⟨t313, A5, H⟩ := H
  by_cases c6 : t313 = true
  ·subst c6
   replace H := IP H
   replace H := EA H
   obtain ⟨⟨t314, t315⟩, A7, H⟩ := H
   try dsimp only at H
   simp only [Option.some.injEq, Prod.mk.injEq] at H
   obtain ⟨rfl, rfl⟩ := H
   go_enter Tryz.func23, Tryz.ntmps23
   go_wp2_with (first | ((with_reducible refine gate_callee (f := 33) rfl ?_); refine goesL_ (some 9) rfl rfl Tryz.func33 (by kernel_rfl) rfl #[.string a0] rfl TA ?_; (with_reducible refine (spec_nlGood.calls k a0 true _ A3.out).mono ?_); rintro e w' ⟨rfl, ⟨nd, rfl⟩⟩; refine ⟨_, rfl, ?_⟩) | (go_at_call 51; (with_reducible refine (spec_l1In.calls a1 0 4 true _ A5.out).mono ?_); rintro e w' ⟨rfl, ⟨nd, rfl⟩⟩) | ((with_reducible refine gate_callee (f := 52) rfl ?_); refine goesL_ (some 19) rfl rfl Tryz.func52 (by kernel_rfl) rfl #[.string a0, .slice none 0 0, .int .i64 a1] rfl TA ?_; (refine (spec_nlSplits.calls k a0 _ _ ([] : List Int) a1 t314 t315 _ ?side1 ?side2 A7.out).mono ?_); (case side1 => exact Kd.C_nil _ _); (case side2 => exact Nat.le_refl _); rintro e w8 ⟨v316, rfl, ho0, hb⟩; refine ⟨_, rfl, ?_⟩; have n0_ := Aside0.mk (Kd.R_lower ho0 (below_size BB)); have n1_ := Aside0.mk (below_step BB hb); clear HB; have HO317 := n0_; have HB := n1_; clear n0_ n1_; (try clear hb); (try clear hb2); (try clear hk); (try clear hi); (try clear ho0)))
   go_ret2
   exact ⟨RE, BB⟩
  ·replace c6 := Bool.eq_false_iff.mpr c6
   subst c6
   replace H := IN H
   simp only [Option.some.injEq, Prod.mk.injEq] at H
   obtain ⟨rfl, rfl⟩ := H
   go_enter Tryz.func23, Tryz.ntmps23
   go_wp2_with (first | ((with_reducible refine gate_callee (f := 33) rfl ?_); refine goesL_ (some 9) rfl rfl Tryz.func33 (by kernel_rfl) rfl #[.string a0] rfl TA ?_; (with_reducible refine (spec_nlGood.calls k a0 true _ A3.out).mono ?_); rintro e w' ⟨rfl, ⟨nd, rfl⟩⟩; refine ⟨_, rfl, ?_⟩) | (go_at_call 51; (with_reducible refine (spec_l1In.calls a1 0 4 false _ A5.out).mono ?_); rintro e w' ⟨rfl, ⟨nd, rfl⟩⟩))
   go_ret2
   exact ⟨RE, BB⟩
 ·replace c4 := Bool.eq_false_iff.mpr c4
  subst c4
  replace H := IN H
  simp only [Option.some.injEq, Prod.mk.injEq] at H
  obtain ⟨rfl, rfl⟩ := H
  go_enter Tryz.func23, Tryz.ntmps23
  go_wp2_with (first | ((with_reducible refine gate_callee (f := 33) rfl ?_); refine goesL_ (some 9) rfl rfl Tryz.func33 (by kernel_rfl) rfl #[.string a0] rfl TA ?_; (with_reducible refine (spec_nlGood.calls k a0 false _ A3.out).mono ?_); rintro e w' ⟨rfl, ⟨nd, rfl⟩⟩; refine ⟨_, rfl, ?_⟩))
  go_ret2
  exact ⟨RE, BB⟩

/-! ### spec_DrawSortedBeads: function 24 -/
def spec_DrawSortedBeads.f (l0 : List Int) : Option (List Int) := (spec_l1Cur_pick.f l0 0 0 4).bind fun bt319 => ((spec_l1Cur_pick.f l0 bt319.2.1 bt319.2.2 3).bind fun bt322 => ((spec_l1Cur_pick.f l0 bt322.2.1 bt322.2.2 3).bind fun bt325 => ((spec_l1Cur_pick.f l0 bt325.2.1 bt325.2.2 3).bind fun bt328 => ((some (([wrap64 (2 * bt319.1), wrap64 (2 * bt322.1), wrap64 (2 * bt325.1), wrap64 (2 * bt328.1)] : List Int) : List Int)).bind fun y331 => ((spec_l1Cur_pick.f l0 bt328.2.1 bt328.2.2 12).bind fun bt334 => (if bt334.1 = 0 then ((spec_l1Cur_pick.f l0 bt334.2.1 bt334.2.2 4).bind fun bt337 => ((spec_l1Cur_among.f l0 bt337.2.1 bt337.2.2 (([(-1), 1, 3, 16, 17, 4611686018427387904] : List Int))).bind fun bt343 => (if 0 ≤ bt337.1 then (if bt337.1 < (y331.length : Int) then (some (y331.set (bt337.1 : Int).toNat bt343.1)) else (none)) else (none)))) else (if bt334.1 = 1 then (if 3 ≤ (y331.length : Int) then (some (y331.take (3 : Int).toNat)) else (none)) else (some y331))))))))
theorem spec_DrawSortedBeads.calls (A0 : Option Addr) (c0 : Nat) (l0 : List Int) (r : List Int) (w : World) (hr0 : Kd.C (Kd.int .u8) w A0 l0.length l0) (hc0 : l0.length ≤ c0) (h : spec_DrawSortedBeads.f l0 = some r) :
  Calls Tryz.prog 24 #[.slice A0 l0.length c0] w fun e w' => ∃ v0_ : Value, e = .returned (v0_) ∧ Kd.R (Kd.int .i64) 3 w' w.heap.size (fun _ => True) v0_ r ∧ Below w.heap.size w w' := by
 have hu58 := Tryz.underlying58
 have HR0 := Aside0.mk hr0
 have HC0 := Aside0.mk hc0
 clear hr0 hc0
 have HB := Aside0.mk (Below.refl w.heap.size w)
 have H : ((spec_l1Cur_pick.f l0 0 0 4).bind fun bt319 => ((spec_l1Cur_pick.f l0 bt319.2.1 bt319.2.2 3).bind fun bt322 => ((spec_l1Cur_pick.f l0 bt322.2.1 bt322.2.2 3).bind fun bt325 => ((spec_l1Cur_pick.f l0 bt325.2.1 bt325.2.2 3).bind fun bt328 => ((some (([wrap64 (2 * bt319.1), wrap64 (2 * bt322.1), wrap64 (2 * bt325.1), wrap64 (2 * bt328.1)] : List Int) : List Int)).bind fun y331 => ((spec_l1Cur_pick.f l0 bt328.2.1 bt328.2.2 12).bind fun bt334 => (if bt334.1 = 0 then ((spec_l1Cur_pick.f l0 bt334.2.1 bt334.2.2 4).bind fun bt337 => ((spec_l1Cur_among.f l0 bt337.2.1 bt337.2.2 (([(-1), 1, 3, 16, 17, 4611686018427387904] : List Int))).bind fun bt343 => (if 0 ≤ bt337.1 then (if bt337.1 < (y331.length : Int) then (some (y331.set (bt337.1 : Int).toNat bt343.1)) else (none)) else (none)))) else (if bt334.1 = 1 then (if 3 ≤ (y331.length : Int) then (some (y331.take (3 : Int).toNat)) else (none)) else (some y331))))))))) = some r := h
 clear h
 replace H := EA H
 obtain ⟨⟨t319, t320, t321⟩, A2, H⟩ := H
 try dsimp only at H
 replace H := EA H
 obtain ⟨⟨t322, t323, t324⟩, A3, H⟩ := H
 try dsimp only at H
 replace H := EA H
 obtain ⟨⟨t325, t326, t327⟩, A4, H⟩ := H
 try dsimp only at H
 replace H := EA H
 obtain ⟨⟨t328, t329, t330⟩, A5, H⟩ := H
 try dsimp only at H
 obtain ⟨y331, hy331⟩ : ∃ y_ : List Int, y_ = (([wrap64 (2 * t319), wrap64 (2 * t322), wrap64 (2 * t325), wrap64 (2 * t328)] : List Int)) := ⟨_, rfl⟩
 replace H : ((spec_l1Cur_pick.f l0 t329 t330 12).bind fun bt334 => (if bt334.1 = 0 then ((spec_l1Cur_pick.f l0 bt334.2.1 bt334.2.2 4).bind fun bt337 => ((spec_l1Cur_among.f l0 bt337.2.1 bt337.2.2 (([(-1), 1, 3, 16, 17, 4611686018427387904] : List Int))).bind fun bt343 => (if 0 ≤ bt337.1 then (if bt337.1 < (y331.length : Int) then (some (y331.set (bt337.1 : Int).toNat bt343.1)) else (none)) else (none)))) else (if bt334.1 = 1 then (if 3 ≤ (y331.length : Int) then (some (y331.take (3 : Int).toNat)) else (none)) else (some y331)))) = some r := HY H hy331
 have Ny331 := Aside0.mk hy331
 clear hy331
 replace H := EA H
 obtain ⟨⟨t334, t335, t336⟩, A6, H⟩ := H
 try dsimp only at H
 by_cases c7 : t334 = 0
 ·rw [if_pos c7] at H
  have c7b0 : (t334 == 0) = true := beq_iff_eq.mpr c7
  have c7b1 : (t334 != 0) = false := bne_eq_false_iff_eq.mpr c7
  clear c7
  replace H := EA H
  obtain ⟨⟨t337, t338, t339⟩, A8, H⟩ := H
  try dsimp only at H
  obtain ⟨y340, hy340⟩ : ∃ y_ : List Int, y_ = (([(-1), 1, 3, 16, 17, 4611686018427387904] : List Int)) := ⟨_, rfl⟩
  replace H : ((spec_l1Cur_among.f l0 t338 t339 y340).bind fun bt343 => (if 0 ≤ t337 then (if t337 < (y331.length : Int) then (some (y331.set (t337 : Int).toNat bt343.1)) else (none)) else (none))) = some r := HY H hy340
  have Ny340 := Aside0.mk hy340
  clear hy340
  replace H := EA H
  obtain ⟨⟨t343, t344, t345⟩, A9, H⟩ := H
  try dsimp only at H
  by_cases c10 : 0 ≤ t337
  ·rw [if_pos c10] at H
   have c10b0 : decide (0 ≤ t337) = true := decide_eq_true c10
   clear c10
   by_cases c11 : t337 < (y331.length : Int)
   ·rw [if_pos c11] at H
    have c11b0 : decide (t337 < (y331.length : Int)) = true := decide_eq_true c11
    clear c11
    obtain ⟨y346, hy346⟩ : ∃ y_ : List Int, y_ = (y331.set (t337 : Int).toNat t343) := ⟨_, rfl⟩
    replace H : (some y346) = some r := HY H hy346
    have Ny346 := Aside0.mk hy346
    clear hy346
    obtain rfl := Option.some.inj H
    go_enter Tryz.func24, Tryz.ntmps24
    go_wp2_with (first | ((with_reducible refine gate_dst (N := 7) rfl ?_); refine box_event ?hg (N := 7) ?hd (cs := #[.slice A0 l0.length c0, .int .i64 0, .int .u64 0]) (t := 58) ?hr ?_; (case hd => rfl); (case hg => rfl); (case hr => exact GS); intro gb318 hg w13 hbox hb; have n0_ := Aside0.mk (below_step BB hb); have n1_ := Aside0.mk ((by rw [hg]; exact (below_size BB) : w.heap.size ≤ gb318)); have n2_ := Aside0.mk ((by rw [hg]; exact (below_size BB) : w.heap.size ≤ gb318)); have n3_ := Aside0.mk ((show IsS58 w w13 gb318 l0 0 0 from ⟨A0, c0, hbox, (by rw [hg]; exact (below_size BB) : w.heap.size ≤ gb318), HR0.out⟩)); clear HB; have HB := n0_; have GW318 := n1_; have GE318 := n2_; have HI318 := n3_; clear n0_ n1_ n2_ n3_; clear hb hbox hg) | ((with_reducible refine gate_callee (f := 53) rfl ?_); refine goesL_ (some 9) rfl rfl Tryz.func53 (by kernel_rfl) rfl #[.pointer (some ⟨gb318, 0, none⟩), .int .i64 4] rfl TA ?_; (with_reducible refine (spec_l1Cur_pick.calls gb318 l0 0 0 4 t319 t320 t321 w _ ?side1 ?side2 A2.out).mono ?_); (case side1 => repeat (first | (with_reducible first | exact HI318.out | apply IsS58.alloc | apply IsS58.drewN | apply IsS58.drew | apply IsS58.set_1 | apply IsS58.set_2) | exact HI318.out)); (case side2 => repeat (first | (with_reducible first | exact HB.out | apply below_alloc | apply pw_below_drewN | apply below_drew1 | refine below_set ?_ (IsS58.ge HI318.out)) | exact HB.out)); rintro e w14 ⟨rfl, hi, hb, hk⟩; refine ⟨_, rfl, ?_⟩; have n0_ := Aside0.mk (hb); have n1_ := Aside0.mk (hi); clear HB; clear HI318; have HB := n0_; have HI318 := n1_; clear n0_ n1_; (try clear hb); (try clear hb2); (try clear hk); (try clear hi)) | ((with_reducible refine gate_callee (f := 53) rfl ?_); refine goesL_ (some 12) rfl rfl Tryz.func53 (by kernel_rfl) rfl #[.pointer (some ⟨gb318, 0, none⟩), .int .i64 3] rfl TA ?_; (with_reducible refine (spec_l1Cur_pick.calls gb318 l0 t320 t321 3 t322 t323 t324 w _ ?side1 ?side2 A3.out).mono ?_); (case side1 => repeat (first | (with_reducible first | exact HI318.out | apply IsS58.alloc | apply IsS58.drewN | apply IsS58.drew | apply IsS58.set_1 | apply IsS58.set_2) | exact HI318.out)); (case side2 => repeat (first | (with_reducible first | exact HB.out | apply below_alloc | apply pw_below_drewN | apply below_drew1 | refine below_set ?_ (IsS58.ge HI318.out)) | exact HB.out)); rintro e w15 ⟨rfl, hi, hb, hk⟩; refine ⟨_, rfl, ?_⟩; have n0_ := Aside0.mk (hb); have n1_ := Aside0.mk (hi); clear HB; clear HI318; have HB := n0_; have HI318 := n1_; clear n0_ n1_; (try clear hb); (try clear hb2); (try clear hk); (try clear hi)) | ((with_reducible refine gate_callee (f := 53) rfl ?_); refine goesL_ (some 15) rfl rfl Tryz.func53 (by kernel_rfl) rfl #[.pointer (some ⟨gb318, 0, none⟩), .int .i64 3] rfl TA ?_; (with_reducible refine (spec_l1Cur_pick.calls gb318 l0 t323 t324 3 t325 t326 t327 w _ ?side1 ?side2 A4.out).mono ?_); (case side1 => repeat (first | (with_reducible first | exact HI318.out | apply IsS58.alloc | apply IsS58.drewN | apply IsS58.drew | apply IsS58.set_1 | apply IsS58.set_2) | exact HI318.out)); (case side2 => repeat (first | (with_reducible first | exact HB.out | apply below_alloc | apply pw_below_drewN | apply below_drew1 | refine below_set ?_ (IsS58.ge HI318.out)) | exact HB.out)); rintro e w16 ⟨rfl, hi, hb, hk⟩; refine ⟨_, rfl, ?_⟩; have n0_ := Aside0.mk (hb); have n1_ := Aside0.mk (hi); clear HB; clear HI318; have HB := n0_; have HI318 := n1_; clear n0_ n1_; (try clear hb); (try clear hb2); (try clear hk); (try clear hi)) | ((with_reducible refine gate_callee (f := 53) rfl ?_); refine goesL_ (some 18) rfl rfl Tryz.func53 (by kernel_rfl) rfl #[.pointer (some ⟨gb318, 0, none⟩), .int .i64 3] rfl TA ?_; (with_reducible refine (spec_l1Cur_pick.calls gb318 l0 t326 t327 3 t328 t329 t330 w _ ?side1 ?side2 A5.out).mono ?_); (case side1 => repeat (first | (with_reducible first | exact HI318.out | apply IsS58.alloc | apply IsS58.drewN | apply IsS58.drew | apply IsS58.set_1 | apply IsS58.set_2) | exact HI318.out)); (case side2 => repeat (first | (with_reducible first | exact HB.out | apply below_alloc | apply pw_below_drewN | apply below_drew1 | refine below_set ?_ (IsS58.ge HI318.out)) | exact HB.out)); rintro e w17 ⟨rfl, hi, hb, hk⟩; refine ⟨_, rfl, ?_⟩; have n0_ := Aside0.mk (hb); have n1_ := Aside0.mk (hi); clear HB; clear HI318; have HB := n0_; have HI318 := n1_; clear n0_ n1_; (try clear hb); (try clear hb2); (try clear hk); (try clear hi)) | ((with_reducible refine gate_dst (N := 20) rfl ?_); refine Kd.R_lit (Kd.int .i64) _ 3 ?hg (N := 20) ?hd (xs := ([wrap64 (2 * t319), wrap64 (2 * t322), wrap64 (2 * t325), wrap64 (2 * t328)] : List Int)) (inner := [.int .i64 (wrap64 (2 * t319)), .int .i64 (wrap64 (2 * t322)), .int .i64 (wrap64 (2 * t325)), .int .i64 (wrap64 (2 * t328))]) (ok := fun _ => True) (okp := fun _ => True) ?hr ?hp (fun _ hk => hk) trivial (Below.refl _ _) (Nat.le_refl _) (by simp) ?_; (case hd => rfl); (case hg => rfl); (case hr => exact GS); (case hp => exact (Reps.one (show Kd.M (Kd.int .i64) _ _ _ (wrap64 (2 * t319)) [.int .i64 (wrap64 (2 * t319))] from rfl) (Reps.one (show Kd.M (Kd.int .i64) _ _ _ (wrap64 (2 * t322)) [.int .i64 (wrap64 (2 * t322))] from rfl) (Reps.one (show Kd.M (Kd.int .i64) _ _ _ (wrap64 (2 * t325)) [.int .i64 (wrap64 (2 * t325))] from rfl) (Reps.one (show Kd.M (Kd.int .i64) _ _ _ (wrap64 (2 * t328)) [.int .i64 (wrap64 (2 * t328))] from rfl) (Reps.none _ _)))))); intro v332 w18 ho19 hb hg_ hnew_; clear hg_ hnew_; (first | rw [← Ny331.out] at ho19 | (simp only [Int.reduceToNat] at ho19; rw [← Ny331.out] at ho19)); have n0_ := Aside0.mk (Kd.R_lower ho19 (below_size (by repeat (first | (with_reducible first | exact HB.out | apply below_alloc | apply pw_below_drewN | apply below_drew1 | refine below_set ?_ (IsS58.ge HI318.out)) | exact HB.out)))); have n1_ := Aside0.mk (IsS58.below (by repeat (first | (with_reducible first | exact HI318.out | apply IsS58.alloc | apply IsS58.drewN | apply IsS58.drew | apply IsS58.set_1 | apply IsS58.set_2) | exact HI318.out)) hb); have n2_ := Aside0.mk (below_step (by repeat (first | (with_reducible first | exact HB.out | apply below_alloc | apply pw_below_drewN | apply below_drew1 | refine below_set ?_ (IsS58.ge HI318.out)) | exact HB.out)) hb); clear HI318; clear HB; have HO333 := n0_; have HI318 := n1_; have HB := n2_; clear n0_ n1_ n2_; clear hb ho19) | ((with_reducible refine gate_callee (f := 53) rfl ?_); refine goesL_ (some 22) rfl rfl Tryz.func53 (by kernel_rfl) rfl #[.pointer (some ⟨gb318, 0, none⟩), .int .i64 12] rfl TA ?_; (with_reducible refine (spec_l1Cur_pick.calls gb318 l0 t329 t330 12 t334 t335 t336 w _ ?side1 ?side2 A6.out).mono ?_); (case side1 => repeat (first | (with_reducible first | exact HI318.out | apply IsS58.alloc | apply IsS58.drewN | apply IsS58.drew | apply IsS58.set_1 | apply IsS58.set_2) | exact HI318.out)); (case side2 => repeat (first | (with_reducible first | exact HB.out | apply below_alloc | apply pw_below_drewN | apply below_drew1 | refine below_set ?_ (IsS58.ge HI318.out)) | exact HB.out)); rintro e w20 ⟨rfl, hi, hb, hk⟩; refine ⟨_, rfl, ?_⟩; have n0_ := Aside0.mk (Kd.R_mono (Kd.R_keep (IsS58.apart (show IsS58 w _ gb318 l0 t329 t330 from by repeat (first | (with_reducible first | exact HI318.out | apply IsS58.alloc | apply IsS58.drewN | apply IsS58.drew | apply IsS58.set_1 | apply IsS58.set_2) | exact HI318.out)) (KR HO333) (by decide)) hk (fun _ h => h.2)) (fun _ h => h.1)); have n1_ := Aside0.mk (hb); have n2_ := Aside0.mk (hi); clear HO333; clear HB; clear HI318; have HO333 := n0_; have HB := n1_; have HI318 := n2_; clear n0_ n1_ n2_; (try clear hb); (try clear hb2); (try clear hk); (try clear hi)) | ((with_reducible refine gate_callee (f := 53) rfl ?_); refine goesL_ (some 27) rfl rfl Tryz.func53 (by kernel_rfl) rfl #[.pointer (some ⟨gb318, 0, none⟩), .int .i64 4] rfl TA ?_; (with_reducible refine (spec_l1Cur_pick.calls gb318 l0 t335 t336 4 t337 t338 t339 w _ ?side1 ?side2 A8.out).mono ?_); (case side1 => repeat (first | (with_reducible first | exact HI318.out | apply IsS58.alloc | apply IsS58.drewN | apply IsS58.drew | apply IsS58.set_1 | apply IsS58.set_2) | exact HI318.out)); (case side2 => repeat (first | (with_reducible first | exact HB.out | apply below_alloc | apply pw_below_drewN | apply below_drew1 | refine below_set ?_ (IsS58.ge HI318.out)) | exact HB.out)); rintro e w21 ⟨rfl, hi, hb, hk⟩; refine ⟨_, rfl, ?_⟩; have n0_ := Aside0.mk (Kd.R_mono (Kd.R_keep (IsS58.apart (show IsS58 w _ gb318 l0 t335 t336 from by repeat (first | (with_reducible first | exact HI318.out | apply IsS58.alloc | apply IsS58.drewN | apply IsS58.drew | apply IsS58.set_1 | apply IsS58.set_2) | exact HI318.out)) (KR HO333) (by decide)) hk (fun _ h => h.2)) (fun _ h => h.1)); have n1_ := Aside0.mk (hb); have n2_ := Aside0.mk (hi); clear HO333; clear HB; clear HI318; have HO333 := n0_; have HB := n1_; have HI318 := n2_; clear n0_ n1_ n2_; (try clear hb); (try clear hb2); (try clear hk); (try clear hi)) | ((with_reducible refine gate_dst (N := 29) rfl ?_); refine Kd.R_lit (Kd.int .i64) _ 3 ?hg (N := 29) ?hd (xs := ([(-1), 1, 3, 16, 17, 4611686018427387904] : List Int)) (inner := [.int .i64 (-1), .int .i64 1, .int .i64 3, .int .i64 16, .int .i64 17, .int .i64 4611686018427387904]) (ok := fun _ => True) (okp := fun _ => True) ?hr ?hp (fun _ hk => hk) trivial (Below.refl _ _) (Nat.le_refl _) (by simp) ?_; (case hd => rfl); (case hg => rfl); (case hr => exact GS); (case hp => exact (Reps.one (show Kd.M (Kd.int .i64) _ _ _ (-1) [.int .i64 (-1)] from rfl) (Reps.one (show Kd.M (Kd.int .i64) _ _ _ 1 [.int .i64 1] from rfl) (Reps.one (show Kd.M (Kd.int .i64) _ _ _ 3 [.int .i64 3] from rfl) (Reps.one (show Kd.M (Kd.int .i64) _ _ _ 16 [.int .i64 16] from rfl) (Reps.one (show Kd.M (Kd.int .i64) _ _ _ 17 [.int .i64 17] from rfl) (Reps.one (show Kd.M (Kd.int .i64) _ _ _ 4611686018427387904 [.int .i64 4611686018427387904] from rfl) (Reps.none _ _)))))))); intro v341 w22 ho23 hb hg_ hnew_; clear hg_ hnew_; (first | rw [← Ny340.out] at ho23 | (simp only [Int.reduceToNat] at ho23; rw [← Ny340.out] at ho23)); have n0_ := Aside0.mk (Kd.R_elder' (KR HO333) (Kd.R_base ho23) hb); have n1_ := Aside0.mk (Kd.R_lower (Kd.R_new' ho23 (Kd.R_lt (KR HO333))) (below_size (by repeat (first | (with_reducible first | exact HB.out | apply below_alloc | apply pw_below_drewN | apply below_drew1 | refine below_set ?_ (IsS58.ge HI318.out)) | exact HB.out)))); have n2_ := Aside0.mk (IsS58.below (by repeat (first | (with_reducible first | exact HI318.out | apply IsS58.alloc | apply IsS58.drewN | apply IsS58.drew | apply IsS58.set_1 | apply IsS58.set_2) | exact HI318.out)) hb); have n3_ := Aside0.mk (below_step (by repeat (first | (with_reducible first | exact HB.out | apply below_alloc | apply pw_below_drewN | apply below_drew1 | refine below_set ?_ (IsS58.ge HI318.out)) | exact HB.out)) hb); clear HO333; clear HI318; clear HB; have HO333 := n0_; have HO342 := n1_; have HI318 := n2_; have HB := n3_; clear n0_ n1_ n2_ n3_; clear hb ho23; obtain ⟨Ao24, co24, eo24⟩ := Kd.R_slice HO342.out; subst eo24) | ((with_reducible refine gate_callee (f := 50) rfl ?_); refine goesL_ (some 30) rfl rfl Tryz.func50 (by kernel_rfl) rfl #[.pointer (some ⟨gb318, 0, none⟩), .slice Ao24 y340.length co24] rfl TA ?_; (with_reducible refine (spec_l1Cur_among.calls gb318 l0 t338 t339 _ _ y340 t343 t344 t345 w _ ?side1 ?side2 ?side3 ?side4 ?side5 A9.out).mono ?_); (case side1 => repeat (first | (with_reducible first | exact HI318.out | apply IsS58.alloc | apply IsS58.drewN | apply IsS58.drew | apply IsS58.set_1 | apply IsS58.set_2) | exact HI318.out)); (case side2 => repeat (first | (with_reducible first | exact HB.out | apply below_alloc | apply pw_below_drewN | apply below_drew1 | refine below_set ?_ (IsS58.ge HI318.out)) | exact HB.out)); (case side3 => exact CW (Kd.R_reads' HO342.out).2.2); (case side4 => exact (Kd.R_reads' HO342.out).2.1); (case side5 => exact far_slice (IsS58.own_ne HI318.out HO342.out (by decide))); rintro e w25 ⟨rfl, hi, hb, hk⟩; refine ⟨_, rfl, ?_⟩; have n0_ := Aside0.mk (Kd.R_mono (Kd.R_keep (IsS58.apart (show IsS58 w _ gb318 l0 t338 t339 from by repeat (first | (with_reducible first | exact HI318.out | apply IsS58.alloc | apply IsS58.drewN | apply IsS58.drew | apply IsS58.set_1 | apply IsS58.set_2) | exact HI318.out)) (KR HO333) (by decide)) hk (fun _ h => h.2)) (fun _ h => h.1)); have n1_ := Aside0.mk (Kd.R_mono (Kd.R_keep (IsS58.apart (show IsS58 w _ gb318 l0 t338 t339 from by repeat (first | (with_reducible first | exact HI318.out | apply IsS58.alloc | apply IsS58.drewN | apply IsS58.drew | apply IsS58.set_1 | apply IsS58.set_2) | exact HI318.out)) (KR HO342) (by decide)) hk (fun _ h => h.2)) (fun _ h => h.1)); have n2_ := Aside0.mk (hb); have n3_ := Aside0.mk (hi); clear HO333; clear HO342; clear HB; clear HI318; have HO333 := n0_; have HO342 := n1_; have HB := n2_; have HI318 := n3_; clear n0_ n1_ n2_ n3_; (try clear hb); (try clear hb2); (try clear hk); (try clear hi); have p12 : 0 ≤ (t337 : Int) := of_decide_eq_true AS; have q12 : (t337 : Int) < ((y331.length : Int) : Int) := of_decide_eq_true AS; obtain ⟨go12, co12, eo12, gb12, gl12, cl12, HG12⟩ := Kd.R_form HO333.out (by omega); (first | cases eo12 | (injection eo12 with ea_ en_ ec_; (first | subst ea_ | (injection ea_ with ea_; subst ea_)); subst ec_; clear en_)); have GB12 := Aside0.mk gb12; have GG12 := Aside0.mk HG12; clear gb12 gl12 HG12; obtain ⟨hx12_0, hf12_0⟩ := Kd.R_celln 0 HO333.out (t337 : Int) p12 q12; replace p12 := eq_true p12; replace q12 := eq_true q12; have n_ := Aside0.mk (Kd.R_mono (ok' := (fun k_ => some k_ ≠ (.slice Ao24 y340.length co24 : Value).ownBlock)) HO333.out (fun k_ hk => hk.2)); clear HO333; have HO333 := n_; clear n_; obtain ⟨hy26_, hz26_⟩ := Kd.R_celln 0 HO333.out (t337 : Int) (of_decide_eq_true AS) (of_decide_eq_true AS); have HP26 := Kd.R_putg HO333.out (t337 : Int) t343) | ((with_reducible refine gate_store (t := 3) (p := 31) rfl ?_); refine store_event (t := 3) (p := 31) (v := ?vo_w27) (w1 := (w25.setCell ⟨go12, (t337 : Int).toNat, none⟩ (.int .i64 t343))) ?hg ?ho ?hn ?hr ?_; (case ho => rfl); (case hg => rfl); (case hn => rfl); (case hr => exact GS); intro w27 hw; have hg : w25.grownBy w27 (some go12) := (by rw [hw]; exact HP26.2); have hp_ : Kd.R (Kd.int .i64) 3 w27 w.heap.size (fun k_ => some k_ ≠ (.slice Ao24 y340.length co24 : Value).ownBlock) (.slice (some ⟨go12, 0, none⟩) y331.length co12) y346 := (by rw [hw, Ny346.out]; exact HP26.1); clear HP26; have n0_ := Aside0.mk (IsS58.grown (by repeat (first | (with_reducible first | exact HI318.out | apply IsS58.alloc | apply IsS58.drewN | apply IsS58.drew | apply IsS58.set_1 | apply IsS58.set_2) | exact HI318.out)) hg (IsS58.own_ne HI318.out HO333.out (by decide))); have n1_ := Aside0.mk (hp_); have n2_ := Aside0.mk (Kd.R_after (v := (.slice (some ⟨go12, 0, none⟩) y331.length co12)) (v1 := (.slice (some ⟨go12, 0, none⟩) y331.length co12)) (ok := (fun _ => True)) (KR HO342) hg (.inl rfl)); have n3_ := Aside0.mk ((by rw [hw]; exact below_set (HB.out) GB12.out : Below w.heap.size w w27)); clear HI318; clear HO333; clear HO342; clear HB; have HI318 := n0_; have HO333 := n1_; have HO342 := n2_; have HB := n3_; clear n0_ n1_ n2_ n3_; clear hg hw hp_))
    go_ret
    exact ⟨_, RE, by (with_reducible repeat (first | apply Kd.R_alloc | apply Kd.R_drewN | apply Kd.R_drew)); exact Kd.R_mono HO333.out (fun _ hk => trivial), by repeat (first | (with_reducible first | exact HB.out | apply below_alloc | apply pw_below_drewN | apply below_drew1 | refine below_set ?_ (IsS58.ge HI318.out)) | exact HB.out)⟩
   ·rw [if_neg c11] at H
    cases H
  ·rw [if_neg c10] at H
   cases H
 ·rw [if_neg c7] at H
  have c7b0 : (t334 == 0) = false := beq_eq_false_iff_ne.mpr c7
  have c7b1 : (t334 != 0) = true := bne_iff_ne.mpr c7
  by_cases c28 : t334 = 1
  ·rw [if_pos c28] at H
   have c28b0 : (t334 == 1) = true := beq_iff_eq.mpr c28
   have c28b1 : (t334 != 1) = false := bne_eq_false_iff_eq.mpr c28
   clear c28
   by_cases c29 : 3 ≤ (y331.length : Int)
   ·rw [if_pos c29] at H
    have c29b0 := eq_true c29
    have c29b1 : decide (3 ≤ (y331.length : Int)) = true := decide_eq_true c29
    clear c29
    obtain ⟨y347, hy347⟩ : ∃ y_ : List Int, y_ = (y331.take (3 : Int).toNat) := ⟨_, rfl⟩
    replace H : (some y347) = some r := HY H hy347
    have Ny347 := Aside0.mk hy347
    clear hy347
    obtain rfl := Option.some.inj H
    go_enter Tryz.func24, Tryz.ntmps24
    go_wp2_with (first | ((with_reducible refine gate_dst (N := 7) rfl ?_); refine box_event ?hg (N := 7) ?hd (cs := #[.slice A0 l0.length c0, .int .i64 0, .int .u64 0]) (t := 58) ?hr ?_; (case hd => rfl); (case hg => rfl); (case hr => exact GS); intro gb318 hg w30 hbox hb; have n0_ := Aside0.mk (below_step BB hb); have n1_ := Aside0.mk ((by rw [hg]; exact (below_size BB) : w.heap.size ≤ gb318)); have n2_ := Aside0.mk ((by rw [hg]; exact (below_size BB) : w.heap.size ≤ gb318)); have n3_ := Aside0.mk ((show IsS58 w w30 gb318 l0 0 0 from ⟨A0, c0, hbox, (by rw [hg]; exact (below_size BB) : w.heap.size ≤ gb318), HR0.out⟩)); clear HB; have HB := n0_; have GW318 := n1_; have GE318 := n2_; have HI318 := n3_; clear n0_ n1_ n2_ n3_; clear hb hbox hg) | ((with_reducible refine gate_callee (f := 53) rfl ?_); refine goesL_ (some 9) rfl rfl Tryz.func53 (by kernel_rfl) rfl #[.pointer (some ⟨gb318, 0, none⟩), .int .i64 4] rfl TA ?_; (with_reducible refine (spec_l1Cur_pick.calls gb318 l0 0 0 4 t319 t320 t321 w _ ?side1 ?side2 A2.out).mono ?_); (case side1 => repeat (first | (with_reducible first | exact HI318.out | apply IsS58.alloc | apply IsS58.drewN | apply IsS58.drew | apply IsS58.set_1 | apply IsS58.set_2) | exact HI318.out)); (case side2 => repeat (first | (with_reducible first | exact HB.out | apply below_alloc | apply pw_below_drewN | apply below_drew1 | refine below_set ?_ (IsS58.ge HI318.out)) | exact HB.out)); rintro e w31 ⟨rfl, hi, hb, hk⟩; refine ⟨_, rfl, ?_⟩; have n0_ := Aside0.mk (hb); have n1_ := Aside0.mk (hi); clear HB; clear HI318; have HB := n0_; have HI318 := n1_; clear n0_ n1_; (try clear hb); (try clear hb2); (try clear hk); (try clear hi)) | ((with_reducible refine gate_callee (f := 53) rfl ?_); refine goesL_ (some 12) rfl rfl Tryz.func53 (by kernel_rfl) rfl #[.pointer (some ⟨gb318, 0, none⟩), .int .i64 3] rfl TA ?_; (with_reducible refine (spec_l1Cur_pick.calls gb318 l0 t320 t321 3 t322 t323 t324 w _ ?side1 ?side2 A3.out).mono ?_); (case side1 => repeat (first | (with_reducible first | exact HI318.out | apply IsS58.alloc | apply IsS58.drewN | apply IsS58.drew | apply IsS58.set_1 | apply IsS58.set_2) | exact HI318.out)); (case side2 => repeat (first | (with_reducible first | exact HB.out | apply below_alloc | apply pw_below_drewN | apply below_drew1 | refine below_set ?_ (IsS58.ge HI318.out)) | exact HB.out)); rintro e w32 ⟨rfl, hi, hb, hk⟩; refine ⟨_, rfl, ?_⟩; have n0_ := Aside0.mk (hb); have n1_ := Aside0.mk (hi); clear HB; clear HI318; have HB := n0_; have HI318 := n1_; clear n0_ n1_; (try clear hb); (try clear hb2); (try clear hk); (try clear hi)) | ((with_reducible refine gate_callee (f := 53) rfl ?_); refine goesL_ (some 15) rfl rfl Tryz.func53 (by kernel_rfl) rfl #[.pointer (some ⟨gb318, 0, none⟩), .int .i64 3] rfl TA ?_; (with_reducible refine (spec_l1Cur_pick.calls gb318 l0 t323 t324 3 t325 t326 t327 w _ ?side1 ?side2 A4.out).mono ?_); (case side1 => repeat (first | (with_reducible first | exact HI318.out | apply IsS58.alloc | apply IsS58.drewN | apply IsS58.drew | apply IsS58.set_1 | apply IsS58.set_2) | exact HI318.out)); (case side2 => repeat (first | (with_reducible first | exact HB.out | apply below_alloc | apply pw_below_drewN | apply below_drew1 | refine below_set ?_ (IsS58.ge HI318.out)) | exact HB.out)); rintro e w33 ⟨rfl, hi, hb, hk⟩; refine ⟨_, rfl, ?_⟩; have n0_ := Aside0.mk (hb); have n1_ := Aside0.mk (hi); clear HB; clear HI318; have HB := n0_; have HI318 := n1_; clear n0_ n1_; (try clear hb); (try clear hb2); (try clear hk); (try clear hi)) | ((with_reducible refine gate_callee (f := 53) rfl ?_); refine goesL_ (some 18) rfl rfl Tryz.func53 (by kernel_rfl) rfl #[.pointer (some ⟨gb318, 0, none⟩), .int .i64 3] rfl TA ?_; (with_reducible refine (spec_l1Cur_pick.calls gb318 l0 t326 t327 3 t328 t329 t330 w _ ?side1 ?side2 A5.out).mono ?_); (case side1 => repeat (first | (with_reducible first | exact HI318.out | apply IsS58.alloc | apply IsS58.drewN | apply IsS58.drew | apply IsS58.set_1 | apply IsS58.set_2) | exact HI318.out)); (case side2 => repeat (first | (with_reducible first | exact HB.out | apply below_alloc | apply pw_below_drewN | apply below_drew1 | refine below_set ?_ (IsS58.ge HI318.out)) | exact HB.out)); rintro e w34 ⟨rfl, hi, hb, hk⟩; refine ⟨_, rfl, ?_⟩; have n0_ := Aside0.mk (hb); have n1_ := Aside0.mk (hi); clear HB; clear HI318; have HB := n0_; have HI318 := n1_; clear n0_ n1_; (try clear hb); (try clear hb2); (try clear hk); (try clear hi)) | ((with_reducible refine gate_dst (N := 20) rfl ?_); refine Kd.R_lit (Kd.int .i64) _ 3 ?hg (N := 20) ?hd (xs := ([wrap64 (2 * t319), wrap64 (2 * t322), wrap64 (2 * t325), wrap64 (2 * t328)] : List Int)) (inner := [.int .i64 (wrap64 (2 * t319)), .int .i64 (wrap64 (2 * t322)), .int .i64 (wrap64 (2 * t325)), .int .i64 (wrap64 (2 * t328))]) (ok := fun _ => True) (okp := fun _ => True) ?hr ?hp (fun _ hk => hk) trivial (Below.refl _ _) (Nat.le_refl _) (by simp) ?_; (case hd => rfl); (case hg => rfl); (case hr => exact GS); (case hp => exact (Reps.one (show Kd.M (Kd.int .i64) _ _ _ (wrap64 (2 * t319)) [.int .i64 (wrap64 (2 * t319))] from rfl) (Reps.one (show Kd.M (Kd.int .i64) _ _ _ (wrap64 (2 * t322)) [.int .i64 (wrap64 (2 * t322))] from rfl) (Reps.one (show Kd.M (Kd.int .i64) _ _ _ (wrap64 (2 * t325)) [.int .i64 (wrap64 (2 * t325))] from rfl) (Reps.one (show Kd.M (Kd.int .i64) _ _ _ (wrap64 (2 * t328)) [.int .i64 (wrap64 (2 * t328))] from rfl) (Reps.none _ _)))))); intro v332 w35 ho36 hb hg_ hnew_; clear hg_ hnew_; (first | rw [← Ny331.out] at ho36 | (simp only [Int.reduceToNat] at ho36; rw [← Ny331.out] at ho36)); have n0_ := Aside0.mk (Kd.R_lower ho36 (below_size (by repeat (first | (with_reducible first | exact HB.out | apply below_alloc | apply pw_below_drewN | apply below_drew1 | refine below_set ?_ (IsS58.ge HI318.out)) | exact HB.out)))); have n1_ := Aside0.mk (IsS58.below (by repeat (first | (with_reducible first | exact HI318.out | apply IsS58.alloc | apply IsS58.drewN | apply IsS58.drew | apply IsS58.set_1 | apply IsS58.set_2) | exact HI318.out)) hb); have n2_ := Aside0.mk (below_step (by repeat (first | (with_reducible first | exact HB.out | apply below_alloc | apply pw_below_drewN | apply below_drew1 | refine below_set ?_ (IsS58.ge HI318.out)) | exact HB.out)) hb); clear HI318; clear HB; have HO333 := n0_; have HI318 := n1_; have HB := n2_; clear n0_ n1_ n2_; clear hb ho36) | ((with_reducible refine gate_callee (f := 53) rfl ?_); refine goesL_ (some 22) rfl rfl Tryz.func53 (by kernel_rfl) rfl #[.pointer (some ⟨gb318, 0, none⟩), .int .i64 12] rfl TA ?_; (with_reducible refine (spec_l1Cur_pick.calls gb318 l0 t329 t330 12 t334 t335 t336 w _ ?side1 ?side2 A6.out).mono ?_); (case side1 => repeat (first | (with_reducible first | exact HI318.out | apply IsS58.alloc | apply IsS58.drewN | apply IsS58.drew | apply IsS58.set_1 | apply IsS58.set_2) | exact HI318.out)); (case side2 => repeat (first | (with_reducible first | exact HB.out | apply below_alloc | apply pw_below_drewN | apply below_drew1 | refine below_set ?_ (IsS58.ge HI318.out)) | exact HB.out)); rintro e w37 ⟨rfl, hi, hb, hk⟩; refine ⟨_, rfl, ?_⟩; have n0_ := Aside0.mk (Kd.R_mono (Kd.R_keep (IsS58.apart (show IsS58 w _ gb318 l0 t329 t330 from by repeat (first | (with_reducible first | exact HI318.out | apply IsS58.alloc | apply IsS58.drewN | apply IsS58.drew | apply IsS58.set_1 | apply IsS58.set_2) | exact HI318.out)) (KR HO333) (by decide)) hk (fun _ h => h.2)) (fun _ h => h.1)); have n1_ := Aside0.mk (hb); have n2_ := Aside0.mk (hi); clear HO333; clear HB; clear HI318; have HO333 := n0_; have HB := n1_; have HI318 := n2_; clear n0_ n1_ n2_; (try clear hb); (try clear hb2); (try clear hk); (try clear hi); obtain ⟨Ao38, co38, eo38⟩ := Kd.R_slice HO333.out; subst eo38; have q39 : (3 : Int) ≤ ((y331.length : Int) : Int) := of_decide_eq_true AS; obtain ⟨i039, hi039, _, hsz39, _⟩ := info_parts info3; have hcut39 := cut_to (P := Tryz.prog) 25 3 .i64 Tryz.underlying25 hi039 Ao38 y331.length co38 3 (by omega) q39 (Kd.R_reads' HO333.out).2.1; have hr39 := Kd.R_take (m := (3 : Int).toNat) HO333.out (by omega); have hy39 : y347.length = (3 : Int).toNat := (by rw [Ny347.out, List.length_take]; omega); rw [← Ny347.out] at hr39; rw [← hy39] at hr39 hcut39; clear hy39 hi039 hsz39 HO333; have HO349 := Aside0.mk hr39; clear hr39; replace q39 := eq_true q39))
    go_ret
    exact ⟨_, RE, KR HO349, by repeat (first | (with_reducible first | exact HB.out | apply below_alloc | apply pw_below_drewN | apply below_drew1 | refine below_set ?_ (IsS58.ge HI318.out)) | exact HB.out)⟩
   ·rw [if_neg c29] at H
    cases H
  ·rw [if_neg c28] at H
   have c28b0 : (t334 == 1) = false := beq_eq_false_iff_ne.mpr c28
   have c28b1 : (t334 != 1) = true := bne_iff_ne.mpr c28
   obtain rfl := Option.some.inj H
   go_enter Tryz.func24, Tryz.ntmps24
   go_wp2_with (first | ((with_reducible refine gate_dst (N := 7) rfl ?_); refine box_event ?hg (N := 7) ?hd (cs := #[.slice A0 l0.length c0, .int .i64 0, .int .u64 0]) (t := 58) ?hr ?_; (case hd => rfl); (case hg => rfl); (case hr => exact GS); intro gb318 hg w40 hbox hb; have n0_ := Aside0.mk (below_step BB hb); have n1_ := Aside0.mk ((by rw [hg]; exact (below_size BB) : w.heap.size ≤ gb318)); have n2_ := Aside0.mk ((by rw [hg]; exact (below_size BB) : w.heap.size ≤ gb318)); have n3_ := Aside0.mk ((show IsS58 w w40 gb318 l0 0 0 from ⟨A0, c0, hbox, (by rw [hg]; exact (below_size BB) : w.heap.size ≤ gb318), HR0.out⟩)); clear HB; have HB := n0_; have GW318 := n1_; have GE318 := n2_; have HI318 := n3_; clear n0_ n1_ n2_ n3_; clear hb hbox hg) | ((with_reducible refine gate_callee (f := 53) rfl ?_); refine goesL_ (some 9) rfl rfl Tryz.func53 (by kernel_rfl) rfl #[.pointer (some ⟨gb318, 0, none⟩), .int .i64 4] rfl TA ?_; (with_reducible refine (spec_l1Cur_pick.calls gb318 l0 0 0 4 t319 t320 t321 w _ ?side1 ?side2 A2.out).mono ?_); (case side1 => repeat (first | (with_reducible first | exact HI318.out | apply IsS58.alloc | apply IsS58.drewN | apply IsS58.drew | apply IsS58.set_1 | apply IsS58.set_2) | exact HI318.out)); (case side2 => repeat (first | (with_reducible first | exact HB.out | apply below_alloc | apply pw_below_drewN | apply below_drew1 | refine below_set ?_ (IsS58.ge HI318.out)) | exact HB.out)); rintro e w41 ⟨rfl, hi, hb, hk⟩; refine ⟨_, rfl, ?_⟩; have n0_ := Aside0.mk (hb); have n1_ := Aside0.mk (hi); clear HB; clear HI318; have HB := n0_; have HI318 := n1_; clear n0_ n1_; (try clear hb); (try clear hb2); (try clear hk); (try clear hi)) | ((with_reducible refine gate_callee (f := 53) rfl ?_); refine goesL_ (some 12) rfl rfl Tryz.func53 (by kernel_rfl) rfl #[.pointer (some ⟨gb318, 0, none⟩), .int .i64 3] rfl TA ?_; (with_reducible refine (spec_l1Cur_pick.calls gb318 l0 t320 t321 3 t322 t323 t324 w _ ?side1 ?side2 A3.out).mono ?_); (case side1 => repeat (first | (with_reducible first | exact HI318.out | apply IsS58.alloc | apply IsS58.drewN | apply IsS58.drew | apply IsS58.set_1 | apply IsS58.set_2) | exact HI318.out)); (case side2 => repeat (first | (with_reducible first | exact HB.out | apply below_alloc | apply pw_below_drewN | apply below_drew1 | refine below_set ?_ (IsS58.ge HI318.out)) | exact HB.out)); rintro e w42 ⟨rfl, hi, hb, hk⟩; refine ⟨_, rfl, ?_⟩; have n0_ := Aside0.mk (hb); have n1_ := Aside0.mk (hi); clear HB; clear HI318; have HB := n0_; have HI318 := n1_; clear n0_ n1_; (try clear hb); (try clear hb2); (try clear hk); (try clear hi)) | ((with_reducible refine gate_callee (f := 53) rfl ?_); refine goesL_ (some 15) rfl rfl Tryz.func53 (by kernel_rfl) rfl #[.pointer (some ⟨gb318, 0, none⟩), .int .i64 3] rfl TA ?_; (with_reducible refine (spec_l1Cur_pick.calls gb318 l0 t323 t324 3 t325 t326 t327 w _ ?side1 ?side2 A4.out).mono ?_); (case side1 => repeat (first | (with_reducible first | exact HI318.out | apply IsS58.alloc | apply IsS58.drewN | apply IsS58.drew | apply IsS58.set_1 | apply IsS58.set_2) | exact HI318.out)); (case side2 => repeat (first | (with_reducible first | exact HB.out | apply below_alloc | apply pw_below_drewN | apply below_drew1 | refine below_set ?_ (IsS58.ge HI318.out)) | exact HB.out)); rintro e w43 ⟨rfl, hi, hb, hk⟩; refine ⟨_, rfl, ?_⟩; have n0_ := Aside0.mk (hb); have n1_ := Aside0.mk (hi); clear HB; clear HI318; have HB := n0_; have HI318 := n1_; clear n0_ n1_; (try clear hb); (try clear hb2); (try clear hk); (try clear hi)) | ((with_reducible refine gate_callee (f := 53) rfl ?_); refine goesL_ (some 18) rfl rfl Tryz.func53 (by kernel_rfl) rfl #[.pointer (some ⟨gb318, 0, none⟩), .int .i64 3] rfl TA ?_; (with_reducible refine (spec_l1Cur_pick.calls gb318 l0 t326 t327 3 t328 t329 t330 w _ ?side1 ?side2 A5.out).mono ?_); (case side1 => repeat (first | (with_reducible first | exact HI318.out | apply IsS58.alloc | apply IsS58.drewN | apply IsS58.drew | apply IsS58.set_1 | apply IsS58.set_2) | exact HI318.out)); (case side2 => repeat (first | (with_reducible first | exact HB.out | apply below_alloc | apply pw_below_drewN | apply below_drew1 | refine below_set ?_ (IsS58.ge HI318.out)) | exact HB.out)); rintro e w44 ⟨rfl, hi, hb, hk⟩; refine ⟨_, rfl, ?_⟩; have n0_ := Aside0.mk (hb); have n1_ := Aside0.mk (hi); clear HB; clear HI318; have HB := n0_; have HI318 := n1_; clear n0_ n1_; (try clear hb); (try clear hb2); (try clear hk); (try clear hi)) | ((with_reducible refine gate_dst (N := 20) rfl ?_); refine Kd.R_lit (Kd.int .i64) _ 3 ?hg (N := 20) ?hd (xs := ([wrap64 (2 * t319), wrap64 (2 * t322), wrap64 (2 * t325), wrap64 (2 * t328)] : List Int)) (inner := [.int .i64 (wrap64 (2 * t319)), .int .i64 (wrap64 (2 * t322)), .int .i64 (wrap64 (2 * t325)), .int .i64 (wrap64 (2 * t328))]) (ok := fun _ => True) (okp := fun _ => True) ?hr ?hp (fun _ hk => hk) trivial (Below.refl _ _) (Nat.le_refl _) (by simp) ?_; (case hd => rfl); (case hg => rfl); (case hr => exact GS); (case hp => exact (Reps.one (show Kd.M (Kd.int .i64) _ _ _ (wrap64 (2 * t319)) [.int .i64 (wrap64 (2 * t319))] from rfl) (Reps.one (show Kd.M (Kd.int .i64) _ _ _ (wrap64 (2 * t322)) [.int .i64 (wrap64 (2 * t322))] from rfl) (Reps.one (show Kd.M (Kd.int .i64) _ _ _ (wrap64 (2 * t325)) [.int .i64 (wrap64 (2 * t325))] from rfl) (Reps.one (show Kd.M (Kd.int .i64) _ _ _ (wrap64 (2 * t328)) [.int .i64 (wrap64 (2 * t328))] from rfl) (Reps.none _ _)))))); intro v332 w45 ho46 hb hg_ hnew_; clear hg_ hnew_; (first | rw [← Ny331.out] at ho46 | (simp only [Int.reduceToNat] at ho46; rw [← Ny331.out] at ho46)); have n0_ := Aside0.mk (Kd.R_lower ho46 (below_size (by repeat (first | (with_reducible first | exact HB.out | apply below_alloc | apply pw_below_drewN | apply below_drew1 | refine below_set ?_ (IsS58.ge HI318.out)) | exact HB.out)))); have n1_ := Aside0.mk (IsS58.below (by repeat (first | (with_reducible first | exact HI318.out | apply IsS58.alloc | apply IsS58.drewN | apply IsS58.drew | apply IsS58.set_1 | apply IsS58.set_2) | exact HI318.out)) hb); have n2_ := Aside0.mk (below_step (by repeat (first | (with_reducible first | exact HB.out | apply below_alloc | apply pw_below_drewN | apply below_drew1 | refine below_set ?_ (IsS58.ge HI318.out)) | exact HB.out)) hb); clear HI318; clear HB; have HO333 := n0_; have HI318 := n1_; have HB := n2_; clear n0_ n1_ n2_; clear hb ho46) | ((with_reducible refine gate_callee (f := 53) rfl ?_); refine goesL_ (some 22) rfl rfl Tryz.func53 (by kernel_rfl) rfl #[.pointer (some ⟨gb318, 0, none⟩), .int .i64 12] rfl TA ?_; (with_reducible refine (spec_l1Cur_pick.calls gb318 l0 t329 t330 12 t334 t335 t336 w _ ?side1 ?side2 A6.out).mono ?_); (case side1 => repeat (first | (with_reducible first | exact HI318.out | apply IsS58.alloc | apply IsS58.drewN | apply IsS58.drew | apply IsS58.set_1 | apply IsS58.set_2) | exact HI318.out)); (case side2 => repeat (first | (with_reducible first | exact HB.out | apply below_alloc | apply pw_below_drewN | apply below_drew1 | refine below_set ?_ (IsS58.ge HI318.out)) | exact HB.out)); rintro e w47 ⟨rfl, hi, hb, hk⟩; refine ⟨_, rfl, ?_⟩; have n0_ := Aside0.mk (Kd.R_mono (Kd.R_keep (IsS58.apart (show IsS58 w _ gb318 l0 t329 t330 from by repeat (first | (with_reducible first | exact HI318.out | apply IsS58.alloc | apply IsS58.drewN | apply IsS58.drew | apply IsS58.set_1 | apply IsS58.set_2) | exact HI318.out)) (KR HO333) (by decide)) hk (fun _ h => h.2)) (fun _ h => h.1)); have n1_ := Aside0.mk (hb); have n2_ := Aside0.mk (hi); clear HO333; clear HB; clear HI318; have HO333 := n0_; have HB := n1_; have HI318 := n2_; clear n0_ n1_ n2_; (try clear hb); (try clear hb2); (try clear hk); (try clear hi)))
   go_ret
   exact ⟨_, RE, KR HO333, by repeat (first | (with_reducible first | exact HB.out | apply below_alloc | apply pw_below_drewN | apply below_drew1 | refine below_set ?_ (IsS58.ge HI318.out)) | exact HB.out)⟩

-- NOT PRINTED: function 54 (slices_ContainsFunc_int_int)

/-! ### impl_sum: function 56 -/
def impl_sum.l0 : Nat → Int → List Int → Int → Int → Option (Int)
 | 0, _, _, _, _ => none
 | k + 1, x3, x6, x7, x8 => if x8 < x7 then (if 0 ≤ x8 then (if x8 < (x6.length : Int) then (impl_sum.l0 k (wrap64 (x3 + (rd x6 x8))) x6 x7 (wrap64 (x8 + 1))) else (none)) else (none)) else (some x3)
def impl_sum.f (k : Nat) (l0 : List Int) : Option (Int) := impl_sum.l0 k 0 l0 (l0.length : Int) 0
theorem impl_sum.mono_l : ∀ k, (∀ y0 y1 y2 y3, LeO (impl_sum.l0 k y0 y1 y2 y3) (impl_sum.l0 (k + 1) y0 y1 y2 y3))
 | 0 => fun _ _ _ _ r h => by simp [impl_sum.l0] at h
 | k + 1 => by
  have ih0 := impl_sum.mono_l k
  ·intro y0 y1 y2 y3
   unfold impl_sum.l0
   repeat' first
   | with_reducible first | exact ih0 _ _ _ _ | exact LeO.refl _ | exact LeO.none _ | refine LeO.ite ?_ ?_ | refine LeO.bind ?_ (fun _ => ?_)
   | exact LeO.none _ | refine LeO.ite ?_ ?_ | refine LeO.bind ?_ (fun _ => ?_)
theorem impl_sum.mono : ∀ a0 k, LeO (impl_sum.f k a0) (impl_sum.f (k + 1) a0) := by
 intro a0 k
 have ih0 := impl_sum.mono_l k
 unfold impl_sum.f
 repeat' first
   | with_reducible first | exact ih0 _ _ _ _ | exact LeO.refl _ | exact LeO.none _ | refine LeO.ite ?_ ?_ | refine LeO.bind ?_ (fun _ => ?_)
   | exact LeO.none _ | refine LeO.ite ?_ ?_ | refine LeO.bind ?_ (fun _ => ?_)
theorem impl_sum.calls (k : Nat) (A0 : Option Addr) (c0 : Nat) (l0 : List Int) (r : Int) (w : World) (hr0 : Kd.C (Kd.int .i64) w A0 l0.length l0) (hc0 : l0.length ≤ c0) (h : impl_sum.f k l0 = some r) :
  Calls Tryz.prog 56 #[.slice A0 l0.length c0] w fun e w' => e = .returned (.int .i64 r) ∧ Drawn0 w w' := by
 have HR0 := Aside0.mk hr0
 have HC0 := Aside0.mk hc0
 clear hr0 hc0
 have H : (impl_sum.l0 k 0 l0 (l0.length : Int) 0) = some r := h
 clear h
 have H' := Aside0.mk H
 clear H
 go_enter Tryz.func56, Tryz.ntmps56
 go_wp2
 go_loopg [3, 8] k (fun kq v3 v8 w' => ∃ (x3_1 : Int) (x8_1 : Int), v3 = .int .i64 x3_1 ∧ v8 = .int .i64 x8_1 ∧ Aside0 (impl_sum.l0 kq x3_1 l0 (l0.length : Int) x8_1 = some r) ∧ Aside0 (kq ≤ k) ∧ Drawn0 w w')
 case atStart => exact ⟨(0), (0), RF, RF, H', ⟨Nat.le_refl _⟩, by repeat (first | exact Drawn0.refl _ | apply Drawn0.step)⟩
 case round =>
  clear H'
  obtain ⟨x3_1, x8_1, rfl, rfl, HA, HK1, ⟨m1, rfl⟩⟩ := hrel
  cases gk with
  | zero => exact absurd HA.out (by simp [impl_sum.l0])
  | succ k1 =>
   have H := HA.out
   clear HA
   simp only [impl_sum.l0] at H
   by_cases c2 : x8_1 < (l0.length : Int)
   ·rw [if_pos c2] at H
    have c2b0 : decide (x8_1 < (l0.length : Int)) = true := decide_eq_true c2
    clear c2
    by_cases c3 : 0 ≤ x8_1
    ·rw [if_pos c3] at H
     have c3b0 : decide (0 ≤ x8_1) = true := decide_eq_true c3
     clear c3
     by_cases c4 : x8_1 < (l0.length : Int)
     ·rw [if_pos c4] at H
      have c4b0 : decide (x8_1 < (l0.length : Int)) = true := decide_eq_true c4
      clear c4
      have H' := Aside0.mk H
      clear H
      have p350 : 0 ≤ (x8_1 : Int) := of_decide_eq_true AS
      have q350 : x8_1 < (l0.length : Int) := of_decide_eq_true AS
      obtain ⟨ad350, e350, hx350_0⟩ := Kd.at_int HR0.out x8_1 p350 q350
      cases e350
      replace p350 := eq_true p350
      replace q350 := eq_true q350
      go_wp2
      go_roundg k1
      case measure => have := HK1.out; omega
      case rel => exact ⟨(wrap64 (x3_1 + (rd l0 x8_1))), (wrap64 (x8_1 + 1)), RF, RF, H', ⟨by have := HK1.out; omega⟩, by repeat (first | exact Drawn0.refl _ | apply Drawn0.step)⟩
     ·rw [if_neg c4] at H
      cases H
    ·rw [if_neg c3] at H
     cases H
   ·rw [if_neg c2] at H
    have c2b0 : decide (x8_1 < (l0.length : Int)) = false := decide_eq_false c2
    clear c2
    obtain rfl := Option.some.inj H
    go_wp2
    go_ret
    exact ⟨RF, DR⟩

/-! ### strings_Repeat: function 57 (given) -/
def strings_Repeat.f (s : ByteArray) (c : Int) : Option ByteArray := if (decide (0 ≤ c) && decide (c ≤ 9223372036854775807) && decide (s.size * c.toNat ≤ 140737488355328)) = true then some ⟨(Go.Lib.repeatL s.data.toList c.toNat).toArray⟩ else none
theorem strings_Repeat.calls (s : ByteArray) (c : Int) (r : ByteArray) (w : World) (h : strings_Repeat.f s c = some r) :
  Calls Tryz.prog 57 #[.string s, .int .i64 c] w fun e w' => e = .returned (.string r) ∧ Below w.heap.size w w' := by
 unfold strings_Repeat.f at h
 split at h
 ·rename_i hc
  simp only [Bool.and_eq_true, decide_eq_true_eq] at hc
  obtain ⟨⟨h1, h2⟩, h3⟩ := hc
  cases h
  obtain ⟨n, rfl⟩ := Int.eq_ofNat_of_zero_le h1
  rw [Int.toNat_natCast] at h3 ⊢
  exact Go.Proofs.Any.strings_Repeat Go.Proofs.Tryz.lays105 repExtra s n w (by omega) h3
 ·cases h

/-! ### impl_SortedBeads_1: function 55 -/
def impl_SortedBeads_1.f (a0 : Int) : Option (Bool) := (impl_in.f a0 0 16).bind fun t351 => (some (!t351))
theorem impl_SortedBeads_1.calls (a0 : Int) (r : Bool) (w : World) (h : impl_SortedBeads_1.f a0 = some r) :
  Calls Tryz.prog 55 #[.int .i64 a0] w fun e w' => e = .returned (.bool r) ∧ Drawn0 w w' := by
 have H : ((impl_in.f a0 0 16).bind fun t351 => (some (!t351))) = some r := h
 clear h
 replace H := EA H
 obtain ⟨t351, A2, H⟩ := H
 obtain rfl := Option.some.inj H
 go_enter Tryz.func55, Tryz.ntmps55
 go_wp2_with (first | ((with_reducible refine gate_callee (f := 47) rfl ?_); refine goesL_ (some 4) rfl rfl Tryz.func47 (by kernel_rfl) rfl #[.int .i64 a0, .int .i64 0, .int .i64 16] rfl TA ?_; (with_reducible refine (impl_in.calls a0 0 16 t351 _ A2.out).mono ?_); rintro e w' ⟨rfl, ⟨nd, rfl⟩⟩; refine ⟨_, rfl, ?_⟩))
 go_ret
 exact ⟨RF, DR⟩

/-! ### slices_IndexFunc_int_int__impl_SortedBeads_1: function 81 -/
def slices_IndexFunc_int_int__impl_SortedBeads_1.l0 : Nat → List Int → Int → Int → Option (Int)
 | 0, _, _, _ => none
 | k + 1, x0, x7, x8 => if x8 < x7 then (if 0 ≤ x8 then (if x8 < (x0.length : Int) then ((impl_SortedBeads_1.f (rd x0 x8)).bind fun t352 => (if t352 = true then (some x8) else (slices_IndexFunc_int_int__impl_SortedBeads_1.l0 k x0 x7 (wrap64 (x8 + 1))))) else (none)) else (none)) else (some (-1))
def slices_IndexFunc_int_int__impl_SortedBeads_1.f (k : Nat) (l0 : List Int)  : Option (Int) := slices_IndexFunc_int_int__impl_SortedBeads_1.l0 k l0 (l0.length : Int) 0
theorem slices_IndexFunc_int_int__impl_SortedBeads_1.mono_l : ∀ k, (∀ y0 y1 y2, LeO (slices_IndexFunc_int_int__impl_SortedBeads_1.l0 k y0 y1 y2) (slices_IndexFunc_int_int__impl_SortedBeads_1.l0 (k + 1) y0 y1 y2))
 | 0 => fun _ _ _ r h => by simp [slices_IndexFunc_int_int__impl_SortedBeads_1.l0] at h
 | k + 1 => by
  have ih0 := slices_IndexFunc_int_int__impl_SortedBeads_1.mono_l k
  ·intro y0 y1 y2
   unfold slices_IndexFunc_int_int__impl_SortedBeads_1.l0
   repeat' first
   | with_reducible first | exact ih0 _ _ _ | exact LeO.refl _ | exact LeO.none _ | refine LeO.ite ?_ ?_ | refine LeO.bind ?_ (fun _ => ?_)
   | exact LeO.none _ | refine LeO.ite ?_ ?_ | refine LeO.bind ?_ (fun _ => ?_)
theorem slices_IndexFunc_int_int__impl_SortedBeads_1.mono : ∀ a0 k, LeO (slices_IndexFunc_int_int__impl_SortedBeads_1.f k a0) (slices_IndexFunc_int_int__impl_SortedBeads_1.f (k + 1) a0) := by
 intro a0 k
 have ih0 := slices_IndexFunc_int_int__impl_SortedBeads_1.mono_l k
 unfold slices_IndexFunc_int_int__impl_SortedBeads_1.f
 repeat' first
   | with_reducible first | exact ih0 _ _ _ | exact LeO.refl _ | exact LeO.none _ | refine LeO.ite ?_ ?_ | refine LeO.bind ?_ (fun _ => ?_)
   | exact LeO.none _ | refine LeO.ite ?_ ?_ | refine LeO.bind ?_ (fun _ => ?_)
theorem slices_IndexFunc_int_int__impl_SortedBeads_1.calls (k : Nat) (A0 : Option Addr) (c0 : Nat) (l0 : List Int)  (r : Int) (w : World) (hr0 : Kd.C (Kd.int .i64) w A0 l0.length l0) (hc0 : l0.length ≤ c0) (h : slices_IndexFunc_int_int__impl_SortedBeads_1.f k l0 = some r) :
  Calls Tryz.prog 81 #[.slice A0 l0.length c0, .func (.func 55) #[] #[]] w fun e w' => e = .returned (.int .i64 r) ∧ Drawn0 w w' := by
 have HR0 := Aside0.mk hr0
 have HC0 := Aside0.mk hc0
 clear hr0 hc0
 have H : (slices_IndexFunc_int_int__impl_SortedBeads_1.l0 k l0 (l0.length : Int) 0) = some r := h
 clear h
 have H' := Aside0.mk H
 clear H
 go_enter Tryz.func81, Tryz.ntmps81
 go_wp2
 go_loopg [8] k (fun kq v8 w' => ∃ (x8_1 : Int), v8 = .int .i64 x8_1 ∧ Aside0 (slices_IndexFunc_int_int__impl_SortedBeads_1.l0 kq l0 (l0.length : Int) x8_1 = some r) ∧ Aside0 (kq ≤ k) ∧ Drawn0 w w')
 case atStart => exact ⟨(0), RF, H', ⟨Nat.le_refl _⟩, by repeat (first | exact Drawn0.refl _ | apply Drawn0.step)⟩
 case round =>
  clear H'
  try clear p2
  obtain ⟨x8_1, rfl, HA, HK1, ⟨m1, rfl⟩⟩ := hrel
  cases gk with
  | zero => exact absurd HA.out (by simp [slices_IndexFunc_int_int__impl_SortedBeads_1.l0])
  | succ k1 =>
   have H := HA.out
   clear HA
   simp only [slices_IndexFunc_int_int__impl_SortedBeads_1.l0] at H
   by_cases c3 : x8_1 < (l0.length : Int)
   ·rw [if_pos c3] at H
    have c3b0 : decide (x8_1 < (l0.length : Int)) = true := decide_eq_true c3
    clear c3
    by_cases c4 : 0 ≤ x8_1
    ·rw [if_pos c4] at H
     have c4b0 : decide (0 ≤ x8_1) = true := decide_eq_true c4
     clear c4
     by_cases c5 : x8_1 < (l0.length : Int)
     ·rw [if_pos c5] at H
      have c5b0 : decide (x8_1 < (l0.length : Int)) = true := decide_eq_true c5
      clear c5
      replace H := EA H
      obtain ⟨t352, A6, H⟩ := H
      by_cases c7 : t352 = true
      ·subst c7
       replace H := IP H
       obtain rfl := Option.some.inj H
       have p351 : 0 ≤ (x8_1 : Int) := of_decide_eq_true AS
       have q351 : x8_1 < (l0.length : Int) := of_decide_eq_true AS
       obtain ⟨ad351, e351, hx351_0⟩ := Kd.at_int HR0.out x8_1 p351 q351
       cases e351
       replace p351 := eq_true p351
       replace q351 := eq_true q351
       go_wp2_with (first | (go_at_call 55; (with_reducible refine (impl_SortedBeads_1.calls (rd l0 x8_1) true _ A6.out).mono ?_); rintro e w' ⟨rfl, ⟨nd, rfl⟩⟩))
       go_ret
       exact ⟨RF, DR⟩
      ·replace c7 := Bool.eq_false_iff.mpr c7
       subst c7
       replace H := IN H
       have H' := Aside0.mk H
       clear H
       have p351 : 0 ≤ (x8_1 : Int) := of_decide_eq_true AS
       have q351 : x8_1 < (l0.length : Int) := of_decide_eq_true AS
       obtain ⟨ad351, e351, hx351_0⟩ := Kd.at_int HR0.out x8_1 p351 q351
       cases e351
       replace p351 := eq_true p351
       replace q351 := eq_true q351
       go_wp2_with (first | (go_at_call 55; (with_reducible refine (impl_SortedBeads_1.calls (rd l0 x8_1) false _ A6.out).mono ?_); rintro e w' ⟨rfl, ⟨nd, rfl⟩⟩))
       go_roundg k1
       case measure => have := HK1.out; omega
       case rel => exact ⟨(wrap64 (x8_1 + 1)), RF, H', ⟨by have := HK1.out; omega⟩, by repeat (first | exact Drawn0.refl _ | apply Drawn0.step)⟩
     ·rw [if_neg c5] at H
      cases H
    ·rw [if_neg c4] at H
     cases H
   ·rw [if_neg c3] at H
    have c3b0 : decide (x8_1 < (l0.length : Int)) = false := decide_eq_false c3
    clear c3
    obtain rfl := Option.some.inj H
    go_wp2
    go_ret
    exact ⟨RF, DR⟩

/-! ### slices_ContainsFunc_int_int__impl_SortedBeads_1: function 54 -/
def slices_ContainsFunc_int_int__impl_SortedBeads_1.f (k : Nat) (l0 : List Int)  : Option (Bool) := (slices_IndexFunc_int_int__impl_SortedBeads_1.f k l0).bind fun t353 => (some (decide (t353 ≥ 0)))
theorem slices_ContainsFunc_int_int__impl_SortedBeads_1.mono : ∀ a0 k, LeO (slices_ContainsFunc_int_int__impl_SortedBeads_1.f k a0) (slices_ContainsFunc_int_int__impl_SortedBeads_1.f (k + 1) a0) := by
 intro a0 k
 unfold slices_ContainsFunc_int_int__impl_SortedBeads_1.f
 repeat' first
   | with_reducible first | exact slices_IndexFunc_int_int__impl_SortedBeads_1.mono _ _ | exact LeO.refl _ | exact LeO.none _ | refine LeO.ite ?_ ?_ | refine LeO.bind ?_ (fun _ => ?_)
   | exact LeO.none _ | refine LeO.ite ?_ ?_ | refine LeO.bind ?_ (fun _ => ?_)
theorem slices_ContainsFunc_int_int__impl_SortedBeads_1.calls (k : Nat) (A0 : Option Addr) (c0 : Nat) (l0 : List Int)  (r : Bool) (w : World) (hr0 : Kd.C (Kd.int .i64) w A0 l0.length l0) (hc0 : l0.length ≤ c0) (h : slices_ContainsFunc_int_int__impl_SortedBeads_1.f k l0 = some r) :
  Calls Tryz.prog 54 #[.slice A0 l0.length c0, .func (.func 55) #[] #[]] w fun e w' => e = .returned (.bool r) ∧ Drawn0 w w' := by
 have HR0 := Aside0.mk hr0
 have HC0 := Aside0.mk hc0
 clear hr0 hc0
 have H : ((slices_IndexFunc_int_int__impl_SortedBeads_1.f k l0).bind fun t353 => (some (decide (t353 ≥ 0)))) = some r := h
 clear h
 replace H := EA H
 obtain ⟨t353, A3, H⟩ := H
 obtain rfl := Option.some.inj H
 go_enter Tryz.func54, Tryz.ntmps54
 go_wp2_with (first | ((with_reducible refine gate_callee (f := 81) rfl ?_); refine goesL_ (some 7) rfl rfl Tryz.func81 (by kernel_rfl) rfl #[.slice A0 l0.length c0, .func (.func 55) #[] #[]] rfl TA ?_; (with_reducible refine (slices_IndexFunc_int_int__impl_SortedBeads_1.calls k _ _ l0  t353 _ ?side1 ?side2 A3.out).mono ?_); (case side1 => exact CW HR0.out); (case side2 => exact HC0.out); rintro e w' ⟨rfl, ⟨nd, rfl⟩⟩; refine ⟨_, rfl, ?_⟩))
 go_ret
 exact ⟨RF, DR⟩

end Go.Proofs.YthkdkgbcokpbaacGreatDoor.PFnNecklacesShared
