-- Of the printed words, what this claim uses (wip/tools/prune.py).
import Derived.Test.YthaonijhfeemfaaWKept
namespace Go.Proofs.YthaonijhfeemfaaW.bU
open Go.RowKit
def oD (P : World → Prop) (W : World) (ok : Nat → Prop) : Prop := ∀ W' : World, (∀ k, ok k → k < W.heap.size → W'.heap[k]? = W.heap[k]?) → P W'
theorem aro {W W1 : World} {k : Nat} (h : W1.heap[k]? = W.heap[k]?) (hlt : k < W.heap.size) : k < W1.heap.size := by
  rw [Array.getElem?_eq_getElem hlt] at h
  exact (Array.getElem?_eq_some_iff.1 h).1
namespace oD
variable {P Q : World → Prop} {W W1 : World} {ok ok' : Nat → Prop}
theorem now (h : oD P W ok) : P W := h W (fun _ _ _ => rfl)
theorem mono (h : oD P W ok) (hok : ∀ k, ok k → ok' k) : oD P W ok' := fun W' hW => h W' (fun k hk hlt => hW k (hok k hk) hlt)
theorem bound (h : oD P W ok) : oD P W (fun k => ok k ∧ k < W.heap.size) := fun W' hW => h W' (fun k hk hlt => hW k ⟨hk, hlt⟩ hlt)
theorem step (h : oD P W ok) (hm : ∀ k, ok k → k < W.heap.size → W1.heap[k]? = W.heap[k]?) : oD P W1 ok := fun W' hW => h W' (fun k hk hlt => (hW k hk (aro (hm k hk hlt) hlt)).trans (hm k hk hlt))
theorem imp (h : oD P W ok) (hi : ∀ W', P W' → Q W') : oD Q W ok := fun W' hW => hi W' (h W' hW)
theorem old (h : oD P W ok) (hb : Below W.heap.size W W1) : oD P W1 (fun k => ok k ∧ k < W.heap.size) := (h.bound).step (fun k _ hlt => hb.block k hlt)
end oD
namespace Kd
def F {α : Type} (d : Kd α) (W : World) (ok : Nat → Prop) (A : Option Addr) (n : Nat) (xs : List α) : Prop := oD (fun W => d.C W A n xs) W ok
def FK {α : Type} (d : Kd α) (W : World) (ok : Nat → Prop) (x : α) (c : List Value) : Prop := oD (fun W => d.K W x c) W ok
section
variable {α β : Type} {d : Kd α} {e base n n' cc g N : Nat} {ok ok' okp S : Nat → Prop} {w w0 w1 W W1 : World} {A A' : Option Addr} {u v v1 : Value} {xs : List α} {xs' : List β} {d' : Kd β} {x : α} {c : List Value}
theorem aww (h : F d W ok A n xs) : d.C W A n xs := oD.now h
theorem Wv (h : F d W ok A n xs) (hok : ∀ k, ok k → ok' k) : F d W ok' A n xs := oD.mono h hok
theorem aju (h : F d W ok A n xs) : F d W (fun k => ok k ∧ k < W.heap.size) A n xs := oD.bound h
theorem akn (h : F d W ok A n xs) (hm : ∀ k, ok k → k < W.heap.size → W1.heap[k]? = W.heap[k]?) : F d W1 ok A n xs := oD.step h hm
theorem vS (h : F d W ok A n xs) (hb : Below W.heap.size W W1) : F d W1 ok A n xs := akn h (fun k _ hlt => hb.block k hlt)
theorem ahZ (h : F d W ok A n xs) (o : Obj) : F d (W.alloc o) ok A n xs := vS h (jE (Below.refl _ _) o)
theorem ajx (h : F d W ok A n xs) : F d W.drew ok A n xs := vS h (Pz (Below.refl _ _))
theorem ah0 (h : F d W ok A n xs) (m : Nat) : F d (W.drewN m) ok A n xs := vS h (kr (Below.refl _ _) m)
theorem awy (h : F d W ok A n xs) {p : Addr} (hok : ∀ k, ok k → k ≠ p.block) (u : Value) : F d (W.setCell p u) ok A n xs := akn h (fun k hk _ => Below.heap_setCell W p u k (hok k hk))
theorem awx (d : Kd α) (W : World) (ok : Nat → Prop) : F d W ok none ([] : List α).length [] := fun W' _ => awz d W'
theorem apf (h : F d W ok A n xs) (hbase : ∀ k, v.ownBlock = some k → W.heap.size ≤ k) (hb : Below W.heap.size W W1) : F d W1 (fun k => ok k ∧ some k ≠ v.ownBlock) A n xs :=
  Wv (oD.old h hb) (fun k hk => ⟨hk.1, fun he => by have := hbase k he.symm; have := hk.2; omega⟩)
theorem apg (h : F d W ok A n xs) (a : Nat) (ha : W.heap.size ≤ a) : F d W (fun k => ok k ∧ k ≠ a) A n xs := Wv (aju h) (fun k hk => ⟨hk.1, by have := hk.2; omega⟩)
theorem arj (h : F d W (fun k => ok k ∧ some k ≠ v.ownBlock) A n xs) (hg : W.grownBy W1 v.ownBlock) (hat : v1.ownBlock = v.ownBlock ∨ ∃ b, v1.ownBlock = some b ∧ W.heap.size ≤ b) : F d W1 (fun k => ok k ∧ some k ≠ v1.ownBlock) A n xs := by
  refine Wv (oD.step (aju h) (fun k hk hlt => hg.block k hlt hk.1.2)) (fun k hk => ⟨hk.1.1, ?_⟩)
  rcases hat with hat | ⟨b, hb, hle⟩
  · rw [hat]; exact hk.1.2
  · rw [hb]
    intro he
    injection he with he
    have := hk.2
    omega
theorem C_F (hd : Heap d) (h : d.C w A n xs) : F d w (fun k => k < w.heap.size) A n xs := fun _ hW => hd.C (fun k hlt => hW k hlt hlt) h
theorem R_F (h : d.R e W base ok (.slice A n cc) xs) : F d W ok A n xs := fun W' hW => by
  have h2 := aA (NQ h hW)
  rw [h2.1]
  exact h2.2.2
theorem DZ (h : FK d W ok x c) : d.K W x c := oD.now h
theorem NA (h : FK d W ok x c) (hok : ∀ k, ok k → ok' k) : FK d W ok' x c := oD.mono h hok
theorem ZB (h : FK d W ok x c) : FK d W (fun k => ok k ∧ k < W.heap.size) x c := oD.bound h
theorem aa1 (h : FK d W ok x c) (hm : ∀ k, ok k → k < W.heap.size → W1.heap[k]? = W.heap[k]?) : FK d W1 ok x c := oD.step h hm
theorem arn (h : d.M W base ok x c) : FK d W ok x c := fun _ hW => d.mP (ako h hW)
end
end Kd
end Go.Proofs.YthaonijhfeemfaaW.bU
