/- slices.DeleteFunc over a row of numbers that is the call's own, for every closure that leaves alone what was there. -/
import Derived.Test.YtlolkkfpfjlhmaaProg
import Derived.Test.YtlolkkfpfjlhmaaOwn
import Derived.Test.YtlolkkfpfjlhmaaShelf
import Derived.Test.YtlolkkfpfjlhmaaOwnI
import Derived.Shelf.SlicesE.DeleteFunc
namespace Go.Proofs.YtlolkkfpfjlhmaaOwn
open Go.RowKit Go.Shelf Go.Proofs.YtlolkkfpfjlhmaaW.PrintWords Go.Proofs.YtlolkkfpfjlhmaaW.PrintLast
set_option linter.unusedVariables false
set_option linter.unusedSimpArgs false
theorem getBang {l : List Int} {j : Nat} {x : Int} (h : l[j]? = some x) : l.toArray[j]! = x := by
  obtain ⟨h1, h2⟩ := List.getElem?_eq_some_iff.1 h
  rw [getElem!_pos l.toArray j (by simpa using h1)]
  simpa using h2
theorem R_of_own {w : World} {base : Nat} {ok : Nat → Prop} {v : Value} {xs : List Int} (hok : ∀ k, v.ownBlock = some k → ok k) (h : w.ownsRow base 3 1 v xs.length (xs.map encI)) : Kd.R (Kd.int .i64) 3 w base ok v xs := by
  refine ⟨hok, xs.map encI, h, ?_, ?_⟩
  · rw [List.length_map]; exact (Nat.mul_one _).symm
  · intro j y hy
    obtain ⟨h1, h2⟩ := List.getElem?_eq_some_iff.1 hy
    show ((xs.map encI).drop (j * 1)).take 1 = [encI y]
    rw [Nat.mul_one, List.drop_eq_getElem_cons (by rw [List.length_map]; exact h1), List.take_succ_cons, List.take_zero, List.getElem_map, h2]
theorem ownI_mk {w : World} {base : Nat} {ok : Nat → Prop} {xs : List Int} {blk cap : Nat} {cur : Array Value} (hok : ok blk) (hge : base ≤ blk) (hblk : w.heap[blk]? = some (.cells cur 3 (0, 0))) (hcap : xs.length ≤ cap) (hmax : cap ≤ 9223372036854775807) (hsz : cur.size = cap)
    (hc : ∀ (j : Nat) (x : Int), xs[j]? = some x → cur[j]? = some (encI x)) : Kd.R (Kd.int .i64) 3 w base ok (.slice (some ⟨blk, 0, none⟩) xs.length cap) xs := by
  refine R_of_own (fun k hk => ?_) ⟨by rw [List.length_map, Nat.mul_one], .inr ⟨blk, cap, cur, rfl, hge, hblk, hcap, hmax, by omega, ?_⟩⟩
  · have : blk = k := by simpa [Value.ownBlock] using hk
    exact this ▸ hok
  · apply List.ext_getElem?
    intro j
    rw [Nat.mul_one]
    rcases Nat.lt_or_ge j xs.length with h | h
    · rw [List.getElem?_take_of_lt (by omega), Array.getElem?_toList, hc j _ (List.getElem?_eq_getElem h), List.getElem?_map, List.getElem?_eq_getElem h]; rfl
    · rw [List.getElem?_eq_none (by rw [List.length_take]; omega), List.getElem?_eq_none (by rw [List.length_map]; omega)]
theorem put_at {w : World} {blk q : Nat} {cur : Array Value} {t : TypeId} (hblk : w.heap[blk]? = some (.cells cur t (0, 0))) (D : Array Int) :
    (Go.Sort.putRow encI (Go.Sort.ahead w q) blk 0 D).heap[blk]? = some (.cells (Go.Sort.putCells encI 0 D cur) t (0, 0)) := by
  unfold Go.Sort.putRow Go.Sort.mapBlock
  show (w.heap.modify blk _)[blk]? = _
  rw [Array.getElem?_modify, if_pos rfl, hblk]
  rfl
theorem put_far {w : World} {blk q k : Nat} (D : Array Int) (h : ¬ k = blk) : (Go.Sort.putRow encI (Go.Sort.ahead w q) blk 0 D).heap[k]? = w.heap[k]? := by
  unfold Go.Sort.putRow Go.Sort.mapBlock
  show (w.heap.modify blk _)[k]? = _
  rw [Array.getElem?_modify, if_neg (fun e => h e.symm)]
theorem put_kept {w : World} {blk q n cap : Nat} (D : Array Int) : Kept w (Go.Sort.putRow encI (Go.Sort.ahead w q) blk 0 D) (fun k => some k = (Value.slice (some ⟨blk, 0, none⟩) n cap).ownBlock) :=
  ⟨by rw [Go.Sort.size_putRow]; exact Nat.le_refl _, fun k _ hk => put_far D (fun e => hk (by rw [e]; rfl))⟩
theorem holdsI {w : World} {blk : Nat} {cur : Array Value} {t : TypeId} {xs : List Int} (hblk : w.heap[blk]? = some (.cells cur t (0, 0))) (hc : ∀ (j : Nat) (x : Int), xs[j]? = some x → cur[j]? = some (encI x)) : Go.Sort.Holds encI w blk 0 xs.toArray := by
  intro j hj
  have hl : j < xs.length := by simpa using hj
  have h1 := hc j _ (List.getElem?_eq_getElem hl)
  refine ⟨?_, ?_⟩
  · rw [getBang (List.getElem?_eq_getElem hl), Nat.zero_add, blk_cell hblk j]; exact h1
  · unfold World.frozen?
    rw [hblk]
    simp
/-- slices.DeleteFunc over a row of the call's own, of numbers. -/
theorem deleteI (g : Nat) (lb : Array Value) (eg : ∀ args w, (callFunc g args).run Try.prog w = .ok (.enter g args) w)
    {w : World} {base : Nat} {ok : Nat → Prop} {v : Value} {xs : List Int} (q : Int → Bool) (hS : Kd.R (Kd.int .i64) 3 w base ok v xs) (hpos : 0 < xs.length)
    (hcl : ∀ (x : Int) (W : World), W.os = w.os → W.tape = w.tape → W.output = w.output → Kept w W (fun k => some k = v.ownBlock) → Calls Try.prog g (#[.int .i64 x] ++ lb) W fun e W' => e = .returned (.bool (q x)) ∧ ∃ n, W' = W.drewN n) :
    Calls Try.prog 53 #[v, .func (.func g) #[] lb] w fun e w' =>
      ∃ v', e = .returned v' ∧ Kd.R (Kd.int .i64) 3 w' base ok v' (xs.filter fun x => !q x) ∧ v'.ownBlock = v.ownBlock ∧ w'.os = w.os ∧ w'.tape = w.tape ∧ w'.output = w.output ∧ Kept w w' (fun k => some k = v.ownBlock) := by
  obtain ⟨blk, cap, cur, rfl, hge, hblk, hcap, hmax, hsz, hc⟩ := ownI hS hpos
  have hok : ok blk := by
    exact hS.1 blk rfl
  have hH := holdsI hblk hc
  have hp : PredAt Try.prog g lb encI q w := fun W x hb => hcl x W hb.os hb.tape hb.output (Kept.of_below hb _)
  have hpo : PredOver Try.prog g lb encI q blk 0 xs.toArray.size w := fun n os dk x hs => by
    refine hcl x _ rfl rfl rfl ?_
    unfold sortWorld
    refine (put_kept (q := n) (n := xs.length) (cap := cap) dk).then_ (S2 := fun _ => False) ?_ (fun _ h => h.elim)
    refine ⟨?_, fun k hk _ => Go.Sort.heap_grow_old _ os hk⟩
    show _ ≤ ((Go.Sort.putRow encI (Go.Sort.ahead w n) blk 0 dk).heap ++ os).size
    rw [Array.size_append]; omega
  have hD := Go.Proofs.AnyE.slices_DeleteFunc Go.Proofs.Try.delI encI (fun _ => rfl) q g lb eg 0 (fun w => Try.zeroValue3 w) blk 0 cap xs.toArray w hp hpo hH (by simp; omega) (by simpa using hcap)
  have hz : xs.toArray.size = xs.length := by simp
  rw [hz] at hD
  refine hD.mono ?_
  rintro e w' ⟨rfl, q', rfl⟩
  have hfl := List.length_filter_le (fun x => !q x) xs
  refine ⟨_, rfl, ownI_mk hok hge (put_at hblk _) (by simp only [List.toList_toArray]; omega) hmax (by rw [Go.Sort.putCells]; simpa using hsz) (fun j x hx => ?_), rfl, rfl, rfl, rfl, put_kept _⟩
  have hj : j < (xs.filter fun x => !q x).length := (List.getElem?_eq_some_iff.1 hx).1
  have hlt : j < cur.size := by omega
  unfold Go.Sort.putCells
  rw [Array.getElem?_mapIdx, Array.getElem?_eq_getElem hlt, Option.map_some, if_pos ⟨Nat.zero_le _, by simp; omega⟩]
  congr 2
  refine getBang ?_
  rw [Nat.sub_zero, List.getElem?_append_left hj]
  exact hx
end Go.Proofs.YtlolkkfpfjlhmaaOwn
