/- slices.DeleteFunc over a row of the call's own whose elements share (what they lead to is only read): how many stay. -/
import Derived.Test.YthkdkgbcokpbaacGreatDoorDelL
import Derived.Test.YthkdkgbcokpbaacGreatDoorWN
import Derived.Test.YthkdkgbcokpbaacGreatDoorWShare
namespace Go.Proofs.YthkdkgbcokpbaacGreatDoorOwn
open Go.RowKit Go.Shelf Go.Proofs.YthkdkgbcokpbaacGreatDoorW.PrintWords Go.Proofs.YthkdkgbcokpbaacGreatDoorW.PrintLast
set_option linter.unusedVariables false
set_option linter.unusedSimpArgs false
theorem deleteN (g : Nat) (lb : Array Value) (eg : ∀ args w, (callFunc g args).run Tryz.prog w = .ok (.enter g args) w)
    {w : World} {base : Nat} {ok : Nat → Prop} {v : Value} {xs : List (List Int)} (q : List Int → Bool) (hN : Kd.N (Kd.slice 3 (Kd.int .i64)) 25 w base ok v xs) (hbig : xs.length ≤ 9223372036854775807)
    (hcl : ∀ x ∈ xs, ∀ (A : Option Addr) (c : Nat) (W : World), W.os = w.os → W.tape = w.tape → W.output = w.output → Kept w W (fun k => some k = v.ownBlock) → Kd.C (Kd.int .i64) W A x.length x → x.length ≤ c →
      Calls Tryz.prog g (#[.slice A x.length c] ++ lb) W fun e W' => e = .returned (.bool (q x)) ∧ Below W.heap.size W W') :
    Calls Tryz.prog 72 #[v, .func (.func g) #[] lb] w fun e w' =>
      ∃ (A : Option Addr) (c : Nat), e = .returned (.slice A (xs.filter fun x => !q x).length c) ∧ w'.os = w.os ∧ w'.tape = w.tape ∧ w'.output = w.output ∧ Kept w w' (fun k => some k = v.ownBlock) := by
  obtain ⟨h0, rows, hl, hR, hf⟩ := hN
  obtain ⟨h1, inner, ho, hr⟩ := hR
  obtain ⟨hlen, ⟨rfl, hn⟩ | ⟨blk, cap, cur, rfl, hge, hblk, hcap, hmax, hsz, htake⟩⟩ := ho
  · have hx : xs = [] := List.eq_nil_of_length_eq_zero (by omega)
    subst hx
    refine (deleteFuncL_nil g lb eg w).mono fun e w' ⟨he, hw⟩ => ?_
    subst hw
    exact ⟨none, 0, he, rfl, rfl, rfl, Kept.refl _ _⟩
  · have e1 : (Kd.raw (Kd.slice 3 (Kd.int .i64)).sz).sz = 1 := rfl
    rw [e1] at hsz htake
    rw [Nat.mul_one] at hsz htake
    have hel : ∀ (t : Nat) (x : List Int), xs[t]? = some x → ∃ A c, cur[t]? = some (.slice A x.length c) ∧ x.length ≤ c ∧ ∀ W, Kept w W (fun k => k = blk) → Kd.C (Kd.int .i64) W A x.length x := fun t x ht => by
      have hlt : t < xs.length := (List.getElem?_eq_some_iff.1 ht).1
      have hlr : t < rows.length := by omega
      have a := hr.2 t rows[t] (List.getElem?_eq_getElem hlr)
      have b := hf t x rows[t] ht (List.getElem?_eq_getElem hlr)
      obtain ⟨A, c, ec, hlc, _⟩ := Kd.FK_now b
      refine ⟨A, c, ?_, hlc, fun W hK => ?_⟩
      · have hu : (inner.drop (t * 1)).take 1 = rows[t] := a.1
        rw [ec, Nat.mul_one] at hu
        have h3 : inner[t]? = some (.slice A x.length c) := by
          have := congrArg (fun l => l[0]?) hu
          simpa [List.getElem?_take_of_lt, List.getElem?_drop] using this
        rw [← htake, List.getElem?_take_of_lt hlr] at h3
        rw [← Array.getElem?_toList]; exact h3
      · obtain ⟨A', c', ec', _, hC⟩ := b W (fun k hk hkl => hK.2 k hkl (fun e => hk.2 (by rw [e]; rfl)))
        rw [ec] at ec'
        injection ec' with e2 _
        injection e2 with e3 _ _
        rw [e3]; exact hC
    let fa : Nat → Option Addr := fun t => match cur[t]? with | some (.slice a _ _) => a | _ => none
    let fl : Nat → Nat := fun t => match cur[t]? with | some (.slice _ n _) => n | _ => 0
    let fc : Nat → Nat := fun t => match cur[t]? with | some (.slice _ _ c) => c | _ => 0
    have hcell : ∀ (t : Nat) (x : List Int), xs[t]? = some x → cur[t]? = some (.slice (fa t) (fl t) (fc t)) ∧ fl t = x.length ∧ x.length ≤ fc t ∧ ∀ W, Kept w W (fun k => k = blk) → Kd.C (Kd.int .i64) W (fa t) x.length x := fun t x ht => by
      obtain ⟨A, c, hu, hlc, hC⟩ := hel t x ht
      have e1 : fa t = A := by show (match cur[t]? with | some (.slice a _ _) => a | _ => none) = A; rw [hu]
      have e2 : fl t = x.length := by show (match cur[t]? with | some (.slice _ n _) => n | _ => 0) = x.length; rw [hu]
      have e3 : fc t = c := by show (match cur[t]? with | some (.slice _ _ c) => c | _ => 0) = c; rw [hu]
      rw [e1, e2, e3]
      exact ⟨hu, rfl, hlc, hC⟩
    let pb : Nat → Bool := fun t => q (xs.getD t [])
    have hget : ∀ (t : Nat) (x : List Int), xs[t]? = some x → xs.getD t [] = x := fun t x ht => by rw [List.getD_eq_getElem?_getD, ht]; rfl
    have hat : ∀ t, t < xs.length → xs[t]? = some (xs.getD t []) := fun t ht => by rw [List.getD_eq_getElem?_getD, List.getElem?_eq_getElem ht]; rfl
    rw [hl]
    refine (deleteFuncL g lb eg fa fl fc pb blk xs.length cap 25 cur w hblk hbig (by omega) hsz (fun t ht => (hcell t _ (hat t ht)).1) (fun j hj W hos htp hout hK => ?_)).mono fun e w' ⟨he, hA⟩ => ?_
    · obtain ⟨_, h2, h3, h4⟩ := hcell j _ (hat j hj)
      have h6 := hcl (xs.getD j []) (List.mem_of_getElem? (hat j hj)) (fa j) (fc j) W hos htp hout (hK.mono (fun k hk => by rw [hk]; rfl)) (h4 W hK) h3
      rw [← h2] at h6
      exact h6
    · have hmap := kept_map pb q xs (fun t x ht => by show q (xs.getD t []) = q x; rw [hget t x ht])
      have hlen' : (xs.filter fun x => !q x).length = (kept pb xs.length).length := by rw [← hmap, List.length_map]
      rw [hlen']
      exact ⟨_, _, he, hA.os, hA.tape, hA.output, hA.kept_.mono (fun k hk => by rw [hk]; rfl)⟩
end Go.Proofs.YthkdkgbcokpbaacGreatDoorOwn
