/- The law's text, and what it rests on, in one. -/
import Derived.Test.YtlolkkfpfjlhmaaPFnOppositeEdgesFoundx
import Derived.Laws.Bits64b
/-! Plain lemmas on numbers and rounds. -/
namespace Go.Proofs.Ytlolkkfpfjlhmaa.QFnOppositeEdgesFound
open Go.RowKit Go.Proofs.Ytlolkkfpfjlhmaa.PFnOppositeEdgesFound Go.Proofs.YtlolkkfpfjlhmaaW.PrintWords Go.Proofs.YtlolkkfpfjlhmaaW.PrintLast Go.Proofs.YtlolkkfpfjlhmaaW.PrintMore
set_option linter.unusedVariables false
set_option linter.unusedSimpArgs false
theorem wr {x : Int} (h : -9223372036854775808 ≤ x) (h' : x ≤ 9223372036854775807) : wrap64 x = x:=by unfold wrap64;omega
theorem ev_eq {α : Type} {g : Nat→Option α} {r s : α} (h : Ev g r) (e : r = s) : Ev g s:=e ▸ h
theorem ev_const {α : Type} {o : Option α} {r : α} (h : o = some r) : Ev (fun _=>o) r:=⟨0,fun _ _=>h⟩
/-- The values of two runs of one program are the same. -/
theorem ev_one {α : Type} {g : Nat→Option α} {r s : α} (h : Ev g r) (h' : Ev g s) : r = s:=by
  obtain ⟨K,h⟩:=h;obtain ⟨K',h'⟩:=h';have a:=h (max K K') (by omega);have b:=h' (max K K') (by omega);rw [a] at b;exact Option.some.inj b
theorem ev_bind0 {α β : Type} {o : Option α} {f : Nat→α→Option β} {a : α} {r : β} (h : o = some a) (k : Ev (fun n=>f n a) r) : Ev (fun n=>o.bind (f n)) r :=
  Ev.bind (g:=fun _=>o) (ev_const h) k
theorem ev_pos {α : Type} {c : Prop} [Decidable c] {f g : Nat→Option α} {r : α} (h : c) (k : Ev f r) : Ev (fun n=>if c then f n else g n) r:=Ev.congr (fun _=>if_pos h) k
theorem ev_neg {α : Type} {c : Prop} [Decidable c] {f g : Nat→Option α} {r : α} (h : ¬ c) (k : Ev g r) : Ev (fun n=>if c then f n else g n) r:=Ev.congr (fun _=>if_neg h) k
theorem rd_get {l : List Int} {i : Int} (h0 : 0 ≤ i) (h : i < l.length) : l[i.toNat]? = some (rd l i):=by
  unfold rd;rw [List.getD_eq_getElem?_getD,List.getElem?_eq_getElem (by omega)];rfl
theorem rd_nat (l : List Int) (i : Nat) : rd l (i : Int) = l.getD i 0:=rfl
theorem rd_one (x : Int) : rd [x] 0 = x:=rfl
end Go.Proofs.Ytlolkkfpfjlhmaa.QFnOppositeEdgesFound
/-! What the reference's cursor draws: a number within the bounds that were asked for, whatever the bytes are. -/
namespace Go.Proofs.Ytlolkkfpfjlhmaa.QFnOppositeEdgesFound
open Go.RowKit Go.Proofs.Ytlolkkfpfjlhmaa.PFnOppositeEdgesFound Go.Proofs.YtlolkkfpfjlhmaaW.PrintWords Go.Proofs.YtlolkkfpfjlhmaaW.PrintLast Go.Proofs.YtlolkkfpfjlhmaaW.PrintMore
set_option linter.unusedVariables false
set_option linter.unusedSimpArgs false
def U8 (l : List Int) : Prop:=∀ x ∈ l,(Lit.int .u8 x).wf = true
theorem u8_rd {l : List Int} (h : U8 l) (i : Int) : 0 ≤ rd l i∧rd l i ≤ 255:=by
  unfold rd;rw [List.getD_eq_getElem?_getD];cases hc : l[i.toNat]? with
  | none=>exact ⟨Int.le_refl 0,by decide⟩
  | some x =>
    have h1:=h x (List.mem_of_getElem? hc);have h2:=Bool.and_eq_true_iff.1 (show (decide (IntKind.u8.min ≤ x) && decide (x ≤ IntKind.u8.max)) = true from h1);have h3 : (0 : Int) ≤ x:=of_decide_eq_true h2.1;have h4 : x ≤ 255:=of_decide_eq_true h2.2;exact ⟨h3,h4⟩
theorem and255 {x : Int} (h0 : 0 ≤ x) (h1 : x < 18446744073709551616) : 0 ≤ Go.bits .and .u64 x 255∧Go.bits .and .u64 x 255 ≤ 255:=by
  obtain ⟨n,e⟩:=Int.eq_ofNat_of_zero_le h0;subst e;have h2:=bits_and_u64_nat n 255 (by omega) (by omega);rw [show ((255 : Nat) : Int) = 255 from rfl] at h2;rw [h2];have:=@Nat.and_le_right n 255;omega
theorem next_ev {l : List Int} (h : U8 l) {a : Int} (s : Int) (h0 : 0 ≤ a) (h1 : a < 4611686018427387904) : ∃ v s',spec_l1Cur_next.f l a s = some (v,a + 1,s')∧0 ≤ v∧v ≤ 255:=by
  unfold spec_l1Cur_next.f;have hw : ∀ x : Int,0 ≤ IntKind.u64.wrap x∧IntKind.u64.wrap x < 18446744073709551616:=fun x=>by rw [IntKind.wrap_u64];omega
  have hv : ∀ x : Int,0 ≤ wrap64 (Go.bits .and .u64 (IntKind.u64.wrap x / 1099511627776) 255)∧wrap64 (Go.bits .and .u64 (IntKind.u64.wrap x / 1099511627776) 255) ≤ 255:=fun x=>by
    have:=hw x;have h2:=and255 (x:=IntKind.u64.wrap x / 1099511627776) (by omega) (by omega);rw [wr (by omega) (by omega)];exact h2
  rw [wr (show -9223372036854775808 ≤ a + 1 by omega) (by omega)];by_cases hl : a < (l.length : Int)
  · have hr:=u8_rd h a
    rw [if_pos hl,if_pos h0,wr (show -9223372036854775808 ≤ rd l a by omega) (by omega),if_pos (by omega)];exact ⟨_,_,rfl,hr.1,hr.2⟩
  · rw [if_neg hl,if_neg (by omega)]
    exact ⟨_,_,rfl,hv _⟩
theorem pick_ev {l : List Int} (h : U8 l) {a : Int} (s n : Int) (h0 : 0 ≤ a) (h1 : a < 4611686018427387900) : ∃ v a' s',spec_l1Cur_pick.f l a s n = some (v,a',s')∧0 ≤ v∧(v < n ∨ v = 0)∧a ≤ a'∧a' ≤ a + 2:=by
  unfold spec_l1Cur_pick.f;by_cases hn : n ≤ 1
  · rw [if_pos hn]
    exact ⟨_,_,_,rfl,Int.le_refl 0,.inr rfl,by omega,by omega⟩
  · obtain ⟨v,s1,e1,v0,v1⟩:=next_ev h s h0 (by omega)
    rw [if_neg hn,e1,Option.bind_some];by_cases h2 : n > 200
    · obtain ⟨v',s2,e2,w0,w1⟩:=next_ev h s1 (show 0 ≤ a + 1 by omega) (by omega)
      rw [if_pos h2];dsimp only;rw [e2,Option.bind_some,if_neg (by omega)];dsimp only;rw [wr (show -9223372036854775808 ≤ v * 256 by omega) (by omega),wr (show -9223372036854775808 ≤ v * 256 + v' by omega) (by omega)];exact ⟨_,_,_,rfl,Int.tmod_nonneg _ (by omega),.inl (Int.tmod_lt_of_pos _ (by omega)),by omega,by omega⟩
    · rw [if_neg h2,if_neg (by omega)]
      exact ⟨_,_,_,rfl,Int.tmod_nonneg _ v0,.inl (Int.tmod_lt_of_pos _ (by omega)),by dsimp only;omega,by dsimp only;omega⟩
theorem among_ev {l : List Int} (h : U8 l) {a : Int} (s : Int) (L : List Int) (hL : 0 < L.length) (h0 : 0 ≤ a) (h1 : a < 4611686018427387900) : ∃ v a' s',spec_l1Cur_among.f l a s L = some (v,a',s')∧v ∈ L∧a ≤ a'∧a' ≤ a + 2:=by
  unfold spec_l1Cur_among.f;obtain ⟨v,a',s',e,v0,v1,h2,h3⟩:=pick_ev h s (L.length : Int) h0 h1;rw [e,Option.bind_some];dsimp only;rw [if_pos v0,if_pos (by omega)];refine ⟨_,_,_,rfl,?_,h2,h3⟩;unfold rd;rw [List.getD_eq_getElem?_getD,List.getElem?_eq_getElem (by omega)];exact List.getElem_mem _
end Go.Proofs.Ytlolkkfpfjlhmaa.QFnOppositeEdgesFound
/-! Once in so many times, as it is drawn. -/
namespace Go.Proofs.Ytlolkkfpfjlhmaa.QFnOppositeEdgesFound
open Go.RowKit Go.Proofs.YtlolkkfpfjlhmaaOwn Go.Proofs.Ytlolkkfpfjlhmaa.PFnOppositeEdgesFound Go.Proofs.YtlolkkfpfjlhmaaW.PrintWords Go.Proofs.YtlolkkfpfjlhmaaW.PrintLast Go.Proofs.YtlolkkfpfjlhmaaW.PrintMore
set_option linter.unusedVariables false
set_option linter.unusedSimpArgs false
set_option maxRecDepth 100000
theorem one_ev {l : List Int} (h : U8 l) {a : Int} (s n : Int) (h0 : 0 ≤ a) (h1 : a < 4611686018427387900) : ∃ b a' s',spec_l1Cur_one.f l a s n = some (b,a',s')∧a ≤ a'∧a' ≤ a + 2:=by
  obtain ⟨v,a',s',e,_,_,h2,h3⟩:=pick_ev h s n h0 h1;exact ⟨v == 0,a',s',by unfold spec_l1Cur_one.f;rw [e];rfl,h2,h3⟩
end Go.Proofs.Ytlolkkfpfjlhmaa.QFnOppositeEdgesFound
/-! Walks through doors: a walk enters no room twice. -/
set_option linter.unusedVariables false
namespace Go.Proofs.Ytlolkkfpfjlhmaa.QFnOppositeEdgesFound.Path
theorem len_le {α : Type} [DecidableEq α] : ∀ (A B : List α),A.Nodup→(∀ x ∈ A,x ∈ B)→A.length ≤ B.length
  | [],_,_,_=>Nat.zero_le _
  | x :: r,B,hn,h=>by
    obtain ⟨hx,hr⟩:=List.nodup_cons.1 hn
    have hB:=h x List.mem_cons_self
    have:=len_le r (B.erase x) hr (fun y hy=>(List.mem_erase_of_ne (fun e=>hx (by rw [← e];exact hy))).2 (h y (List.mem_cons_of_mem _ hy)))
    have h2:=List.length_erase_of_mem hB
    have h3:=List.length_pos_of_mem hB
    rw [List.length_cons]
    omega
def inC (N : Nat) (c : Int) : Prop:=0 ≤ c∧c < (N : Int)
/-- Rooms and doors: a room that is not full has a door and just one other one; behind a door lies another room, or nothing. -/
structure House (bey : Int→List Int→Int) (oth : Int→List Int→List Int) (full : Int→Bool) (door : Int→List Int→Prop) (N : Nat) : Prop where
  other : ∀ c d,inC N c→full c = false→door c d→door c (oth c d)∧oth c d≠d∧∀ e,door c e→e = d ∨ e = oth c d
  beyond : ∀ c d,inC N c→door c d→bey c d = -1 ∨ (inC N (bey c d)∧bey c d≠c∧door (bey c d) d∧bey (bey c d) d = c)
section
variable (bey : Int→List Int→Int) (oth : Int→List Int→List Int)
/-- The rooms and the doors of a walk. -/
def sq (c0 : Int) (d0 : List Int) : Nat→Int × List Int
  | 0=>(c0,d0)
  | k + 1=>(bey (sq c0 d0 k).1 (oth (sq c0 d0 k).1 (sq c0 d0 k).2),oth (sq c0 d0 k).1 (sq c0 d0 k).2)
variable {bey oth} {full : Int→Bool} {door : Int→List Int→Prop} {N : Nat} (h : House bey oth full door N)
/-- Where a walk begins: out of nothing, or out of a full room. -/
structure Begin (bey : Int→List Int→Int) (full : Int→Bool) (door : Int→List Int→Prop) (N : Nat) (c0 : Int) (d0 : List Int) : Prop where
  door : 0 ≤ c0→inC N c0∧door c0 d0
  back : 0 ≤ c0→bey c0 d0 = -1 ∨ full (bey c0 d0) = true
include h
theorem alive {c0 : Int} {d0 : List Int} (b : Begin bey full door N c0 d0) : ∀ k,(∀ i,i ≤ k→0 ≤ (sq bey oth c0 d0 i).1)→(∀ i,i < k→full (sq bey oth c0 d0 i).1 = false) →
    (∀ i,i ≤ k→inC N (sq bey oth c0 d0 i).1∧door (sq bey oth c0 d0 i).1 (sq bey oth c0 d0 i).2)∧∀ i j,i < j→j ≤ k→(sq bey oth c0 d0 i).1≠(sq bey oth c0 d0 j).1
  | 0,h1,_=>⟨fun i hi=>by
      have : i = 0:=by omega
      subst this
      exact b.door (h1 0 (Nat.le_refl _)),fun i j h2 h3=>by omega⟩
  | k + 1,h1,h2=>by
    obtain ⟨g1,g2⟩:=alive b k (fun i hi=>h1 i (by omega)) (fun i hi=>h2 i (by omega))
    have hf:=h2 k (Nat.lt_succ_self k)
    obtain ⟨gk1,gk2⟩:=g1 k (Nat.le_refl _)
    obtain ⟨o1,o2,o3⟩:=h.other _ _ gk1 hf gk2
    have hp:=h1 (k + 1) (Nat.le_refl _)
    have hb:=h.beyond _ _ gk1 o1
    have e1 : (sq bey oth c0 d0 (k + 1)).1 = bey (sq bey oth c0 d0 k).1 (oth (sq bey oth c0 d0 k).1 (sq bey oth c0 d0 k).2):=rfl
    have e2 : (sq bey oth c0 d0 (k + 1)).2 = oth (sq bey oth c0 d0 k).1 (sq bey oth c0 d0 k).2:=rfl
    rw [← e2] at hb o1 o2 o3
    rw [← e2] at e1
    rw [← e1] at hb
    rcases hb with hb|⟨b1,b2,b3,b4⟩
    · omega
    refine ⟨fun i hi=>?_,fun i j hij hj=>?_⟩
    · rcases Nat.lt_or_ge i (k + 1) with h3|h3
      · exact g1 i (by omega)
      · have : i = k + 1:=by omega
        subst this
        exact ⟨b1,b3⟩
    · rcases Nat.lt_or_ge j (k + 1) with h3|h3
      · exact g2 i j hij (by omega)
      · have : j = k + 1:=by omega
        subst this
        intro e
        rcases Nat.lt_or_ge i k with hik|hik
        · -- an elder room
          obtain ⟨gi1,gi2⟩:=g1 i (by omega)
          obtain ⟨p1,p2,p3⟩:=h.other _ _ gi1 (h2 i (by omega)) gi2
          rw [← e] at b3 b4
          rcases p3 _ b3 with e3|e3
          · cases i with
            | zero =>
              have e4 : bey c0 d0 = (sq bey oth c0 d0 k).1:=by
                rw [← b4,e3];rfl
              rcases b.back (h1 0 (by omega)) with e5|e5
              · have:=gk1.1;omega
              · rw [e4,hf] at e5;cases e5
            | succ i =>
              obtain ⟨gj1,gj2⟩:=g1 i (by omega);obtain ⟨q1,q2,q3⟩:=h.other _ _ gj1 (h2 i (by omega)) gj2;have e6 : (sq bey oth c0 d0 (i + 1)).1 = bey (sq bey oth c0 d0 i).1 (sq bey oth c0 d0 (i + 1)).2:=rfl;rcases h.beyond _ _ gj1 q1 with e7|⟨_,_,_,e8⟩
              · have e9 : (sq bey oth c0 d0 (i + 1)).1 = -1:=e7
                have:=gi1.1;omega
              · have e9 : bey (sq bey oth c0 d0 (i + 1)).1 (sq bey oth c0 d0 (i + 1)).2 = (sq bey oth c0 d0 i).1:=e8
                rw [← e3,b4] at e9;exact g2 i k (by omega) (Nat.le_refl _) e9.symm
          · have e4 : oth (sq bey oth c0 d0 i).1 (sq bey oth c0 d0 i).2 = (sq bey oth c0 d0 (i + 1)).2:=rfl
            rw [e4] at e3
            have e5 : (sq bey oth c0 d0 (i + 1)).1 = (sq bey oth c0 d0 k).1:=by
              rw [← b4,e3];rfl
            rcases Nat.lt_or_ge (i + 1) k with h6|h6
            · exact g2 (i + 1) k h6 (Nat.le_refl _) e5
            · have : i + 1 = k:=by omega
              rw [this] at e3;exact o2 e3
        · have : i = k:=by omega
          subst this;exact b2 e.symm
/-- A walk is no longer than there are rooms. -/
theorem short {c0 : Int} {d0 : List Int} (b : Begin bey full door N c0 d0) (k : Nat) (h1 : ∀ i,i ≤ k→0 ≤ (sq bey oth c0 d0 i).1) (h2 : ∀ i,i < k→full (sq bey oth c0 d0 i).1 = false) : k + 1 ≤ N:=by
  obtain ⟨g1,g2⟩:=alive h b k h1 h2
  have hn : ((List.range (k + 1)).map fun i=>((sq bey oth c0 d0 i).1).toNat).Nodup:=by
    refine List.pairwise_map.2 (List.Pairwise.imp_of_mem ?_ List.pairwise_lt_range);intro a c ha hc hac e;have ha':=List.mem_range.1 ha;have hc':=List.mem_range.1 hc;have:=g2 a c hac (by omega);have x1:=h1 a (by omega);have x2:=h1 c (by omega);omega
  have:=len_le _ (List.range N) hn (fun x hx=>by
    obtain ⟨i,hi,rfl⟩:=List.mem_map.1 hx;have hi:=List.mem_range.1 hi;have:=(g1 i (by omega)).1;unfold inC at this;exact List.mem_range.2 (by omega))
  rw [List.length_map,List.length_range,List.length_range] at this;exact this
/-- Where a walk ends. -/
theorem ends {c0 : Int} {d0 : List Int} (b : Begin bey full door N c0 d0) : ∃ K,K ≤ N∧(∀ i,i < K→0 ≤ (sq bey oth c0 d0 i).1∧full (sq bey oth c0 d0 i).1 = false)∧((sq bey oth c0 d0 K).1 < 0 ∨ (0 ≤ (sq bey oth c0 d0 K).1∧full (sq bey oth c0 d0 K).1 = true)):=by
  refine Classical.byContradiction fun hno=>?_
  have hall : ∀ i,i ≤ N→0 ≤ (sq bey oth c0 d0 i).1∧full (sq bey oth c0 d0 i).1 = false:=fun i=>by
    induction i using Nat.strongRecOn with
    | _ i ih =>
      intro hi;refine Classical.byContradiction fun hc=>hno ⟨i,hi,fun j hj=>ih j hj (by omega),?_⟩
      rcases Int.lt_or_le (sq bey oth c0 d0 i).1 0 with h3|h3
      · exact .inl h3
      · refine .inr ⟨h3,?_⟩
        cases h4 : full (sq bey oth c0 d0 i).1 with
        | true=>rfl
        | false=>exact absurd ⟨h3,h4⟩ hc
  have:=short h b N (fun i hi=>(hall i hi).1) (fun i hi=>(hall i (by omega)).2);omega
end
end Go.Proofs.Ytlolkkfpfjlhmaa.QFnOppositeEdgesFound.Path
/-! Squares: tables of the cells and of the border; the rooms of a labelled square are a house. -/
namespace Go.Proofs.Ytlolkkfpfjlhmaa.QFnOppositeEdgesFound
open Go.RowKit Go.Proofs.Ytlolkkfpfjlhmaa.PFnOppositeEdgesFound Go.Proofs.YtlolkkfpfjlhmaaW.PrintWords Go.Proofs.YtlolkkfpfjlhmaaW.PrintLast Go.Proofs.YtlolkkfpfjlhmaaW.PrintMore
set_option linter.unusedVariables false
set_option linter.unusedSimpArgs false
set_option maxRecDepth 100000
theorem wn (j : Nat) (h : j < 1000000000) : wrap64 ((j : Int) + 1) = ((j + 1 : Nat) : Int):=by rw [wr (by omega) (by omega)];omega
theorem rd_at {l : List Int} {i : Nat} (h : i < l.length) : rd l (i : Int) = l[i]:=by rw [rd_nat,List.getD_eq_getElem?_getD,List.getElem?_eq_getElem h];rfl
theorem row_at {G : List (List Int)} {i : Nat} (h : i < G.length) : rd_L2 G (i : Int) = G[i]:=by
  unfold rd_L2;rw [Int.toNat_natCast,List.getD_eq_getElem?_getD,List.getElem?_eq_getElem h];rfl
def cellsT : Nat→List (List Int)
  | 1=>[[0,1,4],[0,3,4],[1,2,5],[1,4,5],[3,4,7],[3,6,7],[4,5,8],[4,7,8]]
  | 2=>[[0,1,6],[0,5,6],[1,2,7],[1,6,7],[2,3,8],[2,7,8],[3,4,9],[3,8,9],[5,6,11],[5,10,11],[6,7,12],[6,11,12],[7,8,13],[7,12,13],[8,9,14],[8,13,14],[10,11,16],[10,15,16],[11,12,17],[11,16,17],[12,13,18],[12,17,18],[13,14,19],[13,18,19],[15,16,21],[15,20,21],[16,17,22],[16,21,22],[17,18,23],[17,22,23],[18,19,24],[18,23,24]]
  | 3=>[[0,1,8],[0,7,8],[1,2,9],[1,8,9],[2,3,10],[2,9,10],[3,4,11],[3,10,11],[4,5,12],[4,11,12],[5,6,13],[5,12,13],[7,8,15],[7,14,15],[8,9,16],[8,15,16],[9,10,17],[9,16,17],[10,11,18],[10,17,18],[11,12,19],[11,18,19],[12,13,20],[12,19,20],[14,15,22],[14,21,22],[15,16,23],[15,22,23],[16,17,24],[16,23,24],[17,18,25],[17,24,25],[18,19,26],[18,25,26],[19,20,27],[19,26,27],[21,22,29],[21,28,29],[22,23,30],[22,29,30],[23,24,31],[23,30,31],[24,25,32],[24,31,32],[25,26,33],[25,32,33],[26,27,34],[26,33,34],[28,29,36],[28,35,36],[29,30,37],[29,36,37],[30,31,38],[30,37,38],[31,32,39],[31,38,39],[32,33,40],[32,39,40],[33,34,41],[33,40,41],[35,36,43],[35,42,43],[36,37,44],[36,43,44],[37,38,45],[37,44,45],[38,39,46],[38,45,46],[39,40,47],[39,46,47],[40,41,48],[40,47,48]]
  | 4=>[[0,1,10],[0,9,10],[1,2,11],[1,10,11],[2,3,12],[2,11,12],[3,4,13],[3,12,13],[4,5,14],[4,13,14],[5,6,15],[5,14,15],[6,7,16],[6,15,16],[7,8,17],[7,16,17],[9,10,19],[9,18,19],[10,11,20],[10,19,20],[11,12,21],[11,20,21],[12,13,22],[12,21,22],[13,14,23],[13,22,23],[14,15,24],[14,23,24],[15,16,25],[15,24,25],[16,17,26],[16,25,26],[18,19,28],[18,27,28],[19,20,29],[19,28,29],[20,21,30],[20,29,30],[21,22,31],[21,30,31],[22,23,32],[22,31,32],[23,24,33],[23,32,33],[24,25,34],[24,33,34],[25,26,35],[25,34,35],[27,28,37],[27,36,37],[28,29,38],[28,37,38],[29,30,39],[29,38,39],[30,31,40],[30,39,40],[31,32,41],[31,40,41],[32,33,42],[32,41,42],[33,34,43],[33,42,43],[34,35,44],[34,43,44],[36,37,46],[36,45,46],[37,38,47],[37,46,47],[38,39,48],[38,47,48],[39,40,49],[39,48,49],[40,41,50],[40,49,50],[41,42,51],[41,50,51],[42,43,52],[42,51,52],[43,44,53],[43,52,53],[45,46,55],[45,54,55],[46,47,56],[46,55,56],[47,48,57],[47,56,57],[48,49,58],[48,57,58],[49,50,59],[49,58,59],[50,51,60],[50,59,60],[51,52,61],[51,60,61],[52,53,62],[52,61,62],[54,55,64],[54,63,64],[55,56,65],[55,64,65],[56,57,66],[56,65,66],[57,58,67],[57,66,67],[58,59,68],[58,67,68],[59,60,69],[59,68,69],[60,61,70],[60,69,70],[61,62,71],[61,70,71],[63,64,73],[63,72,73],[64,65,74],[64,73,74],[65,66,75],[65,74,75],[66,67,76],[66,75,76],[67,68,77],[67,76,77],[68,69,78],[68,77,78],[69,70,79],[69,78,79],[70,71,80],[70,79,80]]
  | _=>[]
def bordT : Nat→List Int
  | 1=>[0,1,2,5,8,7,6,3]
  | 2=>[0,1,2,3,4,9,14,19,24,23,22,21,20,15,10,5]
  | 3=>[0,1,2,3,4,5,6,13,20,27,34,41,48,47,46,45,44,43,42,35,28,21,14,7]
  | 4=>[0,1,2,3,4,5,6,7,8,17,26,35,44,53,62,71,80,79,78,77,76,75,74,73,72,63,54,45,36,27,18,9]
  | _=>[]
/-- How many points and how many cells there are. -/
def pts (n : Nat) : Nat:=(2 * n + 1) * (2 * n + 1)
def cnr (n : Nat) : Nat:=8 * (n * n)
/-- A reach. -/
structure Side (n : Nat) : Prop where
  lo : 1 ≤ n
  hi : n ≤ 4
/-- The edges of a cell. -/
def edges (c : List Int) : List (List Int):=[[rd c 0,rd c 1],[rd c 0,rd c 2],[rd c 1,rd c 2]]
/-- The numbers of the cells with two points. -/
def withFn (cells : List (List Int)) (x y : Int) : Nat→Nat→List Int
  | 0,_=>[]
  | d + 1,i=>(if x ∈ cells.getD i []∧y ∈ cells.getD i [] then [(i : Int)] else []) ++ withFn cells x y d (i + 1)
theorem withFn_len (cells : List (List Int)) (x y : Int) : ∀ d i,(withFn cells x y d i).length ≤ d
  | 0,_=>Nat.le_refl _
  | d + 1,i=>by
    have:=withFn_len cells x y d (i + 1)
    rw [withFn,List.length_append]
    split <;> simp <;> omega
theorem withFn_swap (cells : List (List Int)) (x y : Int) : ∀ d i,withFn cells x y d i = withFn cells y x d i
  | 0,_=>rfl
  | d + 1,i=>by
    rw [withFn,withFn,withFn_swap cells x y d (i + 1)]
    by_cases h : x ∈ cells.getD i []∧y ∈ cells.getD i []
    · rw [if_pos h,if_pos ⟨h.2,h.1⟩]
    · rw [if_neg h,if_neg (fun z=>h ⟨z.2,z.1⟩)]
theorem withFn_lt (cells : List (List Int)) (x y : Int) : ∀ d i,∀ v ∈ withFn cells x y d i,(i : Int) ≤ v∧v < ((i + d : Nat) : Int)
  | 0,i,v,h=>by cases h
  | d + 1,i,v,h=>by
    rw [withFn] at h
    rcases List.mem_append.1 h with h|h
    · split at h
      · have:=List.mem_singleton.1 h;omega
      · cases h
    · have:=withFn_lt cells x y d (i + 1) v h;omega
def wth (C : List (List Int)) (x y : Int) : List Int:=withFn C x y C.length 0
/-- A cell of a table: three points, rising; the cells at each of its edges are itself alone, or itself and one other that has the edge, too. -/
def okCell (C : List (List Int)) (m i : Nat) : Bool :=
  let c:=C.getD i []
  decide (c.length = 3) && decide (0 ≤ rd c 0) && decide (rd c 0 < rd c 1) && decide (rd c 1 < rd c 2) && decide (rd c 2 < (m : Int)) &&
    (edges c).all fun d=>match wth C (rd d 0) (rd d 1) with
      | [p]=>decide (p = (i : Int))
      | [p, q] => decide (p = (i : Int)) && decide (i < q.toNat) && decide (0 ≤ q) && decide (q.toNat < C.length) && (edges (C.getD q.toNat [])).contains d ||
          decide (q = (i : Int)) && decide (p.toNat < i) && decide (0 ≤ p) && decide (p.toNat < C.length) && (edges (C.getD p.toNat [])).contains d
      | _=>false
/-- The steps along a border. -/
def stepsT (b : List Int) : List (List Int):=(List.range b.length).map fun (t : Nat)=>[rd b (t : Int),rd b (Int.ofNat ((t + 1) % b.length))]
def inner (s : List Int) : List Int:=[mn (rd s 0) (rd s 1),mx (rd s 0) (rd s 1)]
/-- A step along the border is the edge of one cell alone. -/
def okStep (C : List (List Int)) (m : Nat) (s : List Int) : Bool :=
  decide (0 ≤ rd s 0) && decide (rd s 0 < (m : Int)) && decide (0 ≤ rd s 1) && decide (rd s 1 < (m : Int)) &&
    match wth C (rd (inner s) 0) (rd (inner s) 1) with
      | [p]=>decide (0 ≤ p) && decide (p.toNat < C.length) && (edges (C.getD p.toNat [])).contains (inner s)
      | _=>false
theorem geo : ((List.range 5).all fun n=>n == 0 || (decide ((cellsT n).length = cnr n) && decide ((bordT n).length = 8 * n) && ((List.range (cnr n)).all (okCell (cellsT n) (pts n)) && (stepsT (bordT n)).all (okStep (cellsT n) (pts n))))) = true:=by decide +kernel
section
variable {n : Nat} (h : Side n)
include h
theorem Side.tab {f : Nat→Bool} (hf : ((List.range 5).all fun n=>n == 0 || f n) = true) : f n = true:=by
  have a:=List.all_eq_true.1 hf n (by simp;have:=h.hi;omega);have z : (n == 0) = false:=by simp;have:=h.lo;omega
  rw [z,Bool.false_or] at a;exact a
theorem Side.geo : (QFnOppositeEdgesFound.cellsT n).length = cnr n∧(bordT n).length = 8 * n∧(∀ i,i < cnr n→okCell (QFnOppositeEdgesFound.cellsT n) (pts n) i = true)∧∀ s ∈ stepsT (bordT n),okStep (QFnOppositeEdgesFound.cellsT n) (pts n) s = true:=by
  have a:=h.tab QFnOppositeEdgesFound.geo;simp only [Bool.and_eq_true,decide_eq_true_eq] at a;exact ⟨a.1.1,a.1.2,fun i hi=>List.all_eq_true.1 a.2.1 i (List.mem_range.2 hi),fun s hs=>List.all_eq_true.1 a.2.2 s hs⟩
theorem Side.pts_le : pts n ≤ 81:=by
  have:=h.hi;exact Nat.mul_le_mul (show 2 * n + 1 ≤ 9 by omega) (show 2 * n + 1 ≤ 9 by omega)
theorem Side.cnr_le : cnr n ≤ 128:=by
  have:=h.hi;have:=Nat.mul_le_mul h.hi h.hi;unfold cnr;omega
end
/-- Are the ends of an edge labelled 1 and 2? -/
def dr (L : List Int) (d : List Int) : Bool:=decide (rd L (rd d 0) + rd L (rd d 1) = 3)
def doorsL (L c : List Int) : List (List Int):=(edges c).filter (dr L)
/-- A cell with a label less than 0. -/
def fullL (L c : List Int) : Bool:=decide (¬ (0 < rd L (rd c 0)∧0 < rd L (rd c 1)∧0 < rd L (rd c 2)))
/-- Labels of m points. -/
structure Lbl (L : List Int) (m : Nat) : Prop where
  len : L.length = m
  small : m ≤ 1000
  ok : ∀ i : Int,0 ≤ i→i < (m : Int)→-2 ≤ rd L i∧rd L i ≤ 2∧rd L i≠0
/-- A cell: three points, rising. -/
structure Tri (c : List Int) (m : Nat) : Prop where
  len : c.length = 3
  lo : 0 ≤ rd c 0
  ab : rd c 0 < rd c 1
  bc : rd c 1 < rd c 2
  hi : rd c 2 < (m : Int)
theorem edges_ok {c : List Int} {m : Nat} (hc : Tri c m) : ∀ e ∈ edges c,∃ x y,e = [x,y]∧(0 ≤ x∧x < (m : Int))∧(0 ≤ y∧y < (m : Int)):=fun e he=>by
  have h1:=hc.lo;have h2:=hc.ab;have h3:=hc.bc;have h4:=hc.hi;unfold edges at he;simp only [List.mem_cons,List.not_mem_nil,or_false] at he;rcases he with e1|e1|e1
  · exact ⟨_,_,e1,by omega,by omega⟩
  · exact ⟨_,_,e1,by omega,by omega⟩
  · exact ⟨_,_,e1,by omega,by omega⟩
/-- The first number other than one. -/
def fb : List Int→Int→Int
  | [],_=>-1
  | p :: r,c=>if p = c then fb r c else p
def bey (C : List (List Int)) (c : Int) (d : List Int) : Int:=fb (wth C (rd d 0) (rd d 1)) c
/-- The first door other than one. -/
def fo : List (List Int)→List Int→List Int
  | [],_=>[]
  | e :: r,d=>if e = d then fo r d else e
/-- Labels of a square. -/
structure Home (n : Nat) (L : List Int) : Prop where
  side : Side n
  lbl : Lbl L (pts n)
def cl (n : Nat) (c : Int) : List Int:=(cellsT n).getD c.toNat []
def fullAt (n : Nat) (L : List Int) (c : Int) : Bool:=fullL L (cl n c)
def doorAt (n : Nat) (L : List Int) (c : Int) (d : List Int) : Prop:=d ∈ doorsL L (cl n c)
def othAt (n : Nat) (L : List Int) (c : Int) (d : List Int) : List Int:=fo (doorsL L (cl n c)) d
def beyAt (n : Nat) (c : Int) (d : List Int) : Int:=bey (cellsT n) c d
section
variable {n : Nat} {L : List Int} (H : Home n L)
include H
theorem Home.nn : cnr n ≤ 128:=H.side.cnr_le
theorem Home.len : (cellsT n).length = cnr n:=H.side.geo.1
theorem Home.lenC : (cellsT n).length ≤ 128:=by rw [H.len];have:=H.nn;omega
theorem Home.cell {c : Int} (hc : Path.inC (cnr n) c) : okCell (cellsT n) (pts n) c.toNat = true:=H.side.geo.2.2.1 _ (by unfold Path.inC at hc;omega)
theorem Home.tri {c : Int} (hc : Path.inC (cnr n) c) : Tri (cl n c) (pts n):=by
  have a:=H.cell hc;unfold okCell at a;simp only [Bool.and_eq_true,decide_eq_true_eq] at a;exact ⟨a.1.1.1.1.1,a.1.1.1.1.2,a.1.1.1.2,a.1.1.2,a.1.2⟩
theorem Home.three : ∀ c ∈ cellsT n,c.length = 3:=fun c hc=>by
  obtain ⟨i,hi,e⟩:=List.getElem_of_mem hc;have:=(H.tri (c:=(i : Int)) (by unfold Path.inC;rw [← H.len];omega)).len;unfold cl at this;rw [Int.toNat_natCast,List.getD_eq_getElem?_getD,List.getElem?_eq_getElem hi] at this;rw [← e];exact this
theorem Home.range {c : Int} (hc : Path.inC (cnr n) c) : 0 ≤ c∧c < ((cellsT n).length : Int):=by rw [H.len];exact hc
/-- A door has two ends. -/
theorem Home.two {c : Int} (hc : Path.inC (cnr n) c) {d : List Int} (hd : doorAt n L c d) : d.length = 2:=by
  unfold doorAt doorsL at hd;obtain ⟨x,y,e,_⟩:=edges_ok (H.tri hc) d (List.mem_filter.1 hd).1;rw [e];rfl
theorem Home.oth2 {c : Int} {d : List Int} (hc : Path.inC (cnr n) c) (hf : fullAt n L c = false) (hd : doorAt n L c d) : doorAt n L c (othAt n L c d)∧othAt n L c d≠d∧∀ e,doorAt n L c e→e = d ∨ e = othAt n L c d:=by
    have T:=H.tri hc;unfold fullAt at hf;unfold doorAt othAt at *;generalize cl n c = w at *;have g1:=T.lo;have g2:=T.ab;have g3:=T.bc;have g4:=T.hi;have r0:=H.lbl.ok (rd w 0) (by omega) (by omega);have r1:=H.lbl.ok (rd w 1) (by omega) (by omega);have r2:=H.lbl.ok (rd w 2) (by omega) (by omega);have nf : 0 < rd L (rd w 0)∧0 < rd L (rd w 1)∧0 < rd L (rd w 2):=Decidable.not_not.1 (of_decide_eq_false hf);have n1 : ([rd w 0,rd w 1] : List Int)≠[rd w 0,rd w 2]:=fun e=>by simp at e;omega
    have n2 : ([rd w 0,rd w 1] : List Int)≠[rd w 1,rd w 2]:=fun e=>by simp at e;omega
    have n3 : ([rd w 0,rd w 2] : List Int)≠[rd w 1,rd w 2]:=fun e=>by simp at e;omega
    have d1 : dr L [rd w 0,rd w 1] = decide (rd L (rd w 0) + rd L (rd w 1) = 3):=rfl;have d2 : dr L [rd w 0,rd w 2] = decide (rd L (rd w 0) + rd L (rd w 2) = 3):=rfl;have d3 : dr L [rd w 1,rd w 2] = decide (rd L (rd w 1) + rd L (rd w 2) = 3):=rfl
    have two : ∀ X Y : List Int,X≠Y→d ∈ [X,Y]→fo [X,Y] d ∈ [X,Y]∧fo [X,Y] d≠d∧∀ e,e ∈ [X,Y]→e = d ∨ e = fo [X,Y] d:=fun X Y hne hm=>by
      rcases List.mem_cons.1 hm with e|e
      · subst e
        have : fo [d,Y] d = Y:=by simp [fo,hne.symm]
        rw [this];exact ⟨by simp,hne.symm,fun e he=>by simpa using he⟩
      · have e:=List.mem_singleton.1 e
        subst e;have : fo [X,d] d = X:=by simp [fo,hne]
        rw [this]
        exact ⟨by simp, hne, fun e he => by rcases List.mem_cons.1 he with h | h; · exact .inr h
                                            · exact .inl (List.mem_singleton.1 h)⟩
    by_cases h1 : rd L (rd w 0) + rd L (rd w 1) = 3
    · by_cases h2 : rd L (rd w 0) + rd L (rd w 2) = 3
      · have h3 : ¬ rd L (rd w 1) + rd L (rd w 2) = 3:=by omega
        have E : doorsL L w = [[rd w 0,rd w 1],[rd w 0,rd w 2]]:=by simp [doorsL,edges,List.filter_cons,d1,d2,d3,h1,h2,h3]
        rw [E] at hd ⊢;exact two _ _ n1 hd
      · have h3 : rd L (rd w 1) + rd L (rd w 2) = 3:=by omega
        have E : doorsL L w = [[rd w 0,rd w 1],[rd w 1,rd w 2]]:=by simp [doorsL,edges,List.filter_cons,d1,d2,d3,h1,h2,h3]
        rw [E] at hd ⊢;exact two _ _ n2 hd
    · by_cases h2 : rd L (rd w 0) + rd L (rd w 2) = 3
      · have h3 : rd L (rd w 1) + rd L (rd w 2) = 3:=by omega
        have E : doorsL L w = [[rd w 0,rd w 2],[rd w 1,rd w 2]]:=by simp [doorsL,edges,List.filter_cons,d1,d2,d3,h1,h2,h3]
        rw [E] at hd ⊢;exact two _ _ n3 hd
      · have h3 : ¬ rd L (rd w 1) + rd L (rd w 2) = 3:=by omega
        have E : doorsL L w = []:=by simp [doorsL,edges,List.filter_cons,d1,d2,d3,h1,h2,h3]
        rw [E] at hd;cases hd
theorem Home.bey2 {c : Int} {d : List Int} (hc : Path.inC (cnr n) c) (hd : doorAt n L c d) : beyAt n c d = -1 ∨ (Path.inC (cnr n) (beyAt n c d)∧beyAt n c d≠c∧doorAt n L (beyAt n c d) d∧beyAt n (beyAt n c d) d = c):=by
    have a:=H.cell hc;unfold doorAt doorsL at hd;obtain ⟨he,hdr⟩:=List.mem_filter.1 hd;unfold okCell at a;simp only [Bool.and_eq_true] at a;have b:=List.all_eq_true.1 a.2 d he;have hn:=H.len;have hc':=hc;unfold Path.inC at hc';unfold beyAt bey;have here : ((c.toNat : Nat) : Int) = c:=by omega
    have door2 : ∀ q : Int,(edges ((cellsT n).getD q.toNat [])).contains d = true→doorAt n L q d:=fun q hq=>by
      unfold doorAt doorsL cl;exact List.mem_filter.2 ⟨List.contains_iff_mem.1 hq,hdr⟩
    revert b;generalize wth (cellsT n) (rd d 0) (rd d 1) = W;intro b;match W,b with
    | [p],b =>
      have e : p = c:=by have:=of_decide_eq_true b;omega
      exact .inl (by simp [fb,e])
    | [p,q],b =>
      simp only [Bool.or_eq_true,Bool.and_eq_true,decide_eq_true_eq] at b;rcases b with b|b
      · obtain ⟨⟨⟨⟨b1,b2⟩,b3⟩,b4⟩,b5⟩:=b
        have e1 : p = c:=by omega
        have e2 : q≠c:=by omega
        subst e1;have x1 : fb [p,q] p = q:=by simp [fb,e2]
        have x2 : fb [p,q] q = p:=by simp [fb,e2.symm]
        rw [x1,x2];exact .inr ⟨⟨b3,by omega⟩,e2,door2 q b5,rfl⟩
      · obtain ⟨⟨⟨⟨b1,b2⟩,b3⟩,b4⟩,b5⟩:=b
        have e1 : q = c:=by omega
        have e2 : p≠c:=by omega
        subst e1;have x1 : fb [p,q] q = p:=by simp [fb,e2]
        have x2 : fb [p,q] p = q:=by simp [fb,e2.symm]
        rw [x1,x2];exact .inr ⟨⟨b3,by omega⟩,e2,door2 p b5,rfl⟩
theorem Home.house : Path.House (beyAt n) (othAt n L) (fullAt n L) (doorAt n L) (cnr n):=⟨fun c d hc hf hd=>H.oth2 hc hf hd,fun c d hc hd=>H.bey2 hc hd⟩
end
end Go.Proofs.Ytlolkkfpfjlhmaa.QFnOppositeEdgesFound
/-! Squares: what the program's functions and the reference's tell of cells, borders, doors and labels, as plain functions. -/
namespace Go.Proofs.Ytlolkkfpfjlhmaa.QFnOppositeEdgesFound
open Go.RowKit Go.Proofs.Ytlolkkfpfjlhmaa.PFnOppositeEdgesFound Go.Proofs.YtlolkkfpfjlhmaaW.PrintWords Go.Proofs.YtlolkkfpfjlhmaaW.PrintLast Go.Proofs.YtlolkkfpfjlhmaaW.PrintMore
set_option linter.unusedVariables false
set_option linter.unusedSimpArgs false
set_option linter.unusedSectionVars false
set_option maxRecDepth 100000
theorem rd_mem {l : List Int} {i : Nat} (h : i < l.length) : rd l (i : Int) = l[i]:=by
  show l.getD (i : Int).toNat 0 = _;rw [Int.toNat_natCast,List.getD_eq_getElem?_getD,List.getElem?_eq_getElem h];rfl
/-- slices.Contains, slices.Index. -/
theorem index_l0 (l : List Int) (x : Int) (hl : l.length < 1000000000) : ∀ (d i : Nat),i + d = l.length →
    ∃ r : Int,Ev (fun k=>slices_Index_int_int.l0 k l x (l.length : Int) i) r∧(0 ≤ r ↔ x ∈ l.drop i):=by
  intro d;induction d with
  | zero =>
    intro i hi;refine ⟨-1,Ev.step (fun f=>slices_Index_int_int.l0.eq_2 ..) (ev_neg (by omega) (Ev.now _)),?_⟩;rw [List.drop_eq_nil_of_le (by omega)];simp
  | succ d ih =>
    intro i hi;obtain ⟨r,e,hr⟩:=ih (i + 1) (by omega);have hlt : i < l.length:=by omega
    rw [List.drop_eq_getElem_cons hlt];by_cases hx : x = l[i]
    · exact ⟨i,Ev.step (fun f=>slices_Index_int_int.l0.eq_2 ..) (ev_pos (by omega) (ev_pos (by omega) (ev_pos (by omega) (ev_pos (by rw [rd_mem hlt];exact hx) (Ev.now _))))),⟨fun _=>by rw [List.mem_cons];exact .inl hx,fun _=>by omega⟩⟩
    · refine ⟨r,Ev.step (fun f=>slices_Index_int_int.l0.eq_2 ..) (ev_pos (by omega) (ev_pos (by omega) (ev_pos (by omega) (ev_neg (by rw [rd_mem hlt];exact hx) ?_)))),by rw [List.mem_cons,hr];exact ⟨.inr,fun z=>z.resolve_left hx⟩⟩
      rw [wn i (by omega)];exact e
theorem contains_ev (l : List Int) (x : Int) (hl : l.length < 1000000000) : Ev (fun k=>slices_Contains_int_int.f k l x) (decide (x ∈ l)):=by
  obtain ⟨r,e,hr⟩:=index_l0 l x hl l.length 0 (by omega);refine Ev.bind (g:=fun k=>slices_Index_int_int.f k l x) e ?_;refine ev_eq (Ev.now _) ?_;rw [List.drop_zero] at hr;exact decide_eq_decide.2 hr
theorem has_l0 (l : List Int) (x : Int) (hl : l.length < 1000000000) : ∀ (d i : Nat),i + d = l.length →
    Ev (fun k=>spec_l1Has.l0 k x l (l.length : Int) i) (decide (x ∈ l.drop i)):=by
  intro d;induction d with
  | zero =>
    intro i hi;refine Ev.step (fun f=>spec_l1Has.l0.eq_2 ..) (ev_neg (by omega) (ev_eq (Ev.now _) ?_));rw [List.drop_eq_nil_of_le (by omega)];simp
  | succ d ih =>
    intro i hi;have hlt : i < l.length:=by omega
    rw [List.drop_eq_getElem_cons hlt];by_cases hx : l[i] = x
    · exact Ev.step (fun f=>spec_l1Has.l0.eq_2 ..) (ev_pos (by omega) (ev_pos (by omega) (ev_pos (by omega) (ev_pos (by rw [rd_mem hlt];exact hx) (ev_eq (Ev.now _) (decide_eq_true (by rw [List.mem_cons];exact .inl hx.symm)).symm)))))
    · refine Ev.step (fun f=>spec_l1Has.l0.eq_2 ..) (ev_pos (by omega) (ev_pos (by omega) (ev_pos (by omega) (ev_neg (by rw [rd_mem hlt];exact hx) ?_))))
      rw [wn i (by omega)];exact ev_eq (ih (i + 1) (by omega)) (decide_eq_decide.2 (by rw [List.mem_cons];exact ⟨.inr,fun z=>z.resolve_left (fun h=>hx h.symm)⟩))
theorem has_ev (l : List Int) (x : Int) (hl : l.length < 1000000000) : Ev (fun k=>spec_l1Has.f k l x) (decide (x ∈ l)):=has_l0 l x hl l.length 0 (by omega)
section
variable (cells : List (List Int)) (x y : Int) (hl : cells.length < 1000000) (he : ∀ c ∈ cells,c.length = 3)
include hl he
theorem each_ (i : Nat) (h : i < cells.length) : (rd_L2 cells (i : Int)).length < 1000000000:=by
  show (cells.getD (i : Int).toNat []).length < _;rw [Int.toNat_natCast,List.getD_eq_getElem?_getD,List.getElem?_eq_getElem h];have:=he _ (List.getElem_mem (l:=cells) (n:=i) h);simp only [Option.getD_some];omega
theorem with_l0 (r : List Int) : ∀ (d i : Nat) (out : List Int),i + d = cells.length→out.length ≤ i→r = out ++ withFn cells x y d i →
    Ev (fun k=>impl_with.l0 k x y out cells (cells.length : Int) i) r:=by
  intro d;induction d with
  | zero =>
    intro i out hi hb e;rw [withFn,List.append_nil] at e;exact Ev.step (fun f=>impl_with.l0.eq_2 ..) (ev_neg (by omega) (ev_eq (Ev.now _) e.symm))
  | succ d ih =>
    intro i out hi hb e;have hz:=each_ cells hl he i (by omega);refine Ev.step (fun f=>impl_with.l0.eq_2 ..) (ev_pos (by omega) (ev_pos (by omega) (ev_pos (by omega) ?_)));rw [withFn] at e;refine Ev.bind (contains_ev _ x hz) ?_;rw [wn i (by omega)];by_cases hx : x ∈ cells.getD i []
    · refine ev_pos (decide_eq_true hx) ?_
      refine Ev.bind (contains_ev _ y hz) ?_;by_cases hy : y ∈ cells.getD i []
      · rw [if_pos ⟨hx,hy⟩,← List.append_assoc] at e
        exact ev_pos (decide_eq_true hy) (ev_pos (by omega) (ih (i + 1) _ (by omega) (by rw [List.length_append];simp;omega) e))
      · rw [if_neg (fun z=>hy z.2),List.nil_append] at e
        exact ev_neg (fun z=>hy (of_decide_eq_true z)) (ih (i + 1) _ (by omega) (by omega) e)
    · rw [if_neg (fun z=>hx z.1),List.nil_append] at e
      exact ev_neg (fun z=>hx (of_decide_eq_true z)) (ih (i + 1) _ (by omega) (by omega) e)
theorem meWith_l0 (r : List Int) : ∀ (d i : Nat) (out : List Int),i + d = cells.length→out.length ≤ i→r = out ++ withFn cells x y d i →
    Ev (fun k=>spec_meWith.l0 k x y out cells (cells.length : Int) i) r:=by
  intro d;induction d with
  | zero =>
    intro i out hi hb e;rw [withFn,List.append_nil] at e;exact Ev.step (fun f=>spec_meWith.l0.eq_2 ..) (ev_neg (by omega) (ev_eq (Ev.now _) e.symm))
  | succ d ih =>
    intro i out hi hb e;have hz:=each_ cells hl he i (by omega);refine Ev.step (fun f=>spec_meWith.l0.eq_2 ..) (ev_pos (by omega) (ev_pos (by omega) (ev_pos (by omega) ?_)));rw [withFn] at e;refine Ev.bind (has_ev _ x hz) ?_;rw [wn i (by omega)];by_cases hx : x ∈ cells.getD i []
    · refine ev_pos (decide_eq_true hx) ?_
      refine Ev.bind (has_ev _ y hz) ?_;by_cases hy : y ∈ cells.getD i []
      · rw [if_pos ⟨hx,hy⟩,← List.append_assoc] at e
        exact ev_pos (decide_eq_true hy) (ev_pos (by omega) (ih (i + 1) _ (by omega) (by rw [List.length_append];simp;omega) e))
      · rw [if_neg (fun z=>hy z.2),List.nil_append] at e
        exact ev_neg (fun z=>hy (of_decide_eq_true z)) (ih (i + 1) _ (by omega) (by omega) e)
    · rw [if_neg (fun z=>hx z.1),List.nil_append] at e
      exact ev_neg (fun z=>hx (of_decide_eq_true z)) (ih (i + 1) _ (by omega) (by omega) e)
theorem with_ev : Ev (fun k=>impl_with.f k cells x y) (withFn cells x y cells.length 0):=with_l0 cells x y hl he _ cells.length 0 [] (by omega) (Nat.le_refl _) rfl
theorem meWith_ev : Ev (fun k=>spec_meWith.f k cells x y) (withFn cells x y cells.length 0):=meWith_l0 cells x y hl he _ cells.length 0 [] (by omega) (Nat.le_refl _) rfl
end
theorem next_loop (W : List Int) (hW : W.length ≤ 1000) (c : Int) : ∀ d i : Nat,i + d = W.length→Ev (fun k=>spec_doNext.l0 k c W (W.length : Int) (i : Int)) (fb (W.drop i) c)
  | 0,i,h=>Ev.step (fun f=>spec_doNext.l0.eq_2 ..) (ev_neg (by omega) (ev_eq (Ev.now _) (by rw [List.drop_eq_nil_of_le (by omega)];rfl)))
  | d + 1,i,h=>by
    have hlt : i < W.length:=by omega
    refine Ev.step (fun f=>spec_doNext.l0.eq_2 ..) (ev_pos (by omega) (ev_pos (by omega) (ev_pos (by omega) ?_)))
    rw [rd_at hlt,wr (by omega) (by omega),List.drop_eq_getElem_cons hlt,fb]
    by_cases e : W[i] = c
    · rw [if_pos e];exact ev_pos e (next_loop W hW c d (i + 1) (by omega))
    · rw [if_neg e];exact ev_neg e (Ev.now _)
theorem doNext_ev {C : List (List Int)} (hl : C.length ≤ 128) (he : ∀ c ∈ C,c.length = 3) (c : Int) {d : List Int} (hd : d.length = 2) : Ev (fun k=>spec_doNext.f k C d c) (bey C c d):=by
  have hw:=withFn_len C (rd d 0) (rd d 1) C.length 0;refine ev_pos (by omega) (ev_pos (by omega) (Ev.bind (meWith_ev C (rd d 0) (rd d 1) (by omega) he) ?_));exact next_loop (wth C (rd d 0) (rd d 1)) (Nat.le_trans hw (by omega)) c (wth C (rd d 0) (rd d 1)).length 0 (by omega)
theorem drop_eq {a b : List Int} (hl : a.length = b.length) {i : Nat} (hi : i < a.length) : (a.drop i = b.drop i) ↔ (rd a (i : Int) = rd b (i : Int)∧a.drop (i + 1) = b.drop (i + 1)):=by
  rw [List.drop_eq_getElem_cons hi,List.drop_eq_getElem_cons (show i < b.length by omega),List.cons.injEq,rd_at hi,rd_at (show i < b.length by omega)]
theorem same_loop (a b : List Int) (hl : a.length = b.length) (hs : a.length ≤ 1000000) : ∀ d i : Nat,i + d = a.length→Ev (fun k=>spec_l1Same.l0 k a b (a.length : Int) (i : Int)) (decide (a.drop i = b.drop i))
  | 0,i,h=>Ev.step (fun f=>spec_l1Same.l0.eq_2 ..) (ev_neg (by omega) (ev_eq (Ev.now _) (by rw [List.drop_eq_nil_of_le (by omega),List.drop_eq_nil_of_le (by omega)];rfl)))
  | d + 1,i,h=>by
    have hd:=drop_eq hl (show i < a.length by omega)
    refine Ev.step (fun f=>spec_l1Same.l0.eq_2 ..) (ev_pos (by omega) (ev_pos (by omega) (ev_pos (by omega) (ev_pos (by omega) ?_))))
    rw [wr (by omega) (by omega)]
    by_cases e : rd a (i : Int) = rd b (i : Int)
    · exact ev_pos e (ev_eq (same_loop a b hl hs d (i + 1) (by omega)) (by rw [decide_eq_decide];exact ⟨fun z=>hd.2 ⟨e,z⟩,fun z=>(hd.1 z).2⟩))
    · exact ev_neg e (ev_eq (Ev.now _) (by rw [decide_eq_false (fun z=>e (hd.1 z).1)]))
theorem same_ev (a b : List Int) (hs : a.length ≤ 1000000) : Ev (fun k=>spec_l1Same.f k a b) (decide (a = b)):=by
  by_cases hl : a.length = b.length
  · have:=same_loop a b hl hs a.length 0 (by omega)
    rw [List.drop_zero,List.drop_zero] at this;exact ev_pos (by omega) this
  · exact ev_neg (by omega) (ev_eq (Ev.now _) (decide_eq_false (fun z=>hl (by rw [z]))).symm)
theorem doInner_eq (x y : Int) : spec_doInner.f x y = some [mn x y,mx x y]:=by
  unfold spec_doInner.f spec_l1Least.f spec_l1Most.f mn mx;by_cases h : x < y
  · rw [if_pos h,if_neg (by omega),if_neg (by omega),if_pos h];rfl
  · by_cases h2 : y < x
    · rw [if_neg h,if_pos h2,if_pos h2,if_neg h];rfl
    · rw [if_neg h,if_neg h2,if_neg h2,if_neg h,show x = y by omega];rfl
/-! ### labels -/
theorem in_spec (a b c : Int) : spec_l1In.f a b c = some (decide (b ≤ a∧a ≤ c)):=by
  unfold spec_l1In.f;by_cases h : a ≥ b
  · rw [if_pos h];simp [show b ≤ a from h]
  · rw [if_neg h];simp [show ¬ b ≤ a from h]
theorem in_impl (a b c : Int) : impl_in.f a b c = some (decide (b ≤ a∧a ≤ c)):=by
  unfold impl_in.f;by_cases h : b ≤ a
  · rw [if_pos h];simp [h]
  · rw [if_neg h];simp [h]
theorem reach_spec (a : Int) : spec_opReach.f a = some (decide (1 ≤ a∧a ≤ 4)):=by
  unfold spec_opReach.f;rw [in_spec];rfl
theorem reach_impl (a : Int) : impl_isReach.f a = some (decide (1 ≤ a∧a ≤ 4)):=by
  unfold impl_isReach.f;rw [in_impl];rfl
/-- All numbers are from -2 to 2, and none is 0. -/
def okB (l : List Int) : Bool:=l.all fun x=>decide (-2 ≤ x∧x ≤ 2) && !decide (x = 0)
theorem all_loop (l : List Int) (hl : l.length ≤ 1048576) : ∀ d i : Nat,i + d = l.length→Ev (fun k=>spec_opLabels.l0 k l (l.length : Int) (i : Int)) (okB (l.drop i))
  | 0,i,h=>Ev.step (fun f=>spec_opLabels.l0.eq_2 ..) (ev_neg (by omega) (ev_eq (Ev.now _) (by rw [List.drop_eq_nil_of_le (by omega)];rfl)))
  | d + 1,i,h=>by
    have hlt : i < l.length:=by omega
    refine Ev.step (fun f=>spec_opLabels.l0.eq_2 ..) (ev_pos (by omega) (ev_pos (by omega) (ev_pos (by omega) (ev_bind0 (in_spec _ _ _) ?_))))
    unfold okB
    rw [List.drop_eq_getElem_cons hlt,List.all_cons,rd_at hlt,wr (show -9223372036854775808 ≤ (i : Int) + 1 by omega) (by omega)]
    by_cases hc : -2 ≤ l[i]∧l[i] ≤ 2
    · rw [decide_eq_true hc,Bool.true_and]
      refine ev_pos rfl ?_
      by_cases hz : l[i] = 0
      · exact ev_pos hz (ev_eq (Ev.now _) (by rw [decide_eq_true hz];rfl))
      · exact ev_neg hz (ev_eq (all_loop l hl d (i + 1) (by omega)) (by rw [decide_eq_false hz];rfl))
    · rw [decide_eq_false hc,Bool.false_and,Bool.false_and]
      exact ev_neg (by decide) (Ev.now _)
theorem bad_one (x : Int) : impl_areSigns_1.f x = some (!(decide (-2 ≤ x∧x ≤ 2) && !decide (x = 0))):=by
  unfold impl_areSigns_1.f;rw [in_impl];by_cases h : -2 ≤ x∧x ≤ 2
  · rw [decide_eq_true h]
    show (if true = true then some (x == 0) else some true) = _;rw [if_pos rfl];by_cases hz : x = 0
    · subst hz;rfl
    · rw [decide_eq_false hz,beq_eq_false_iff_ne.2 hz];rfl
  · rw [decide_eq_false h];rfl
theorem bad_loop (l : List Int) (hl : l.length ≤ 1048576) : ∀ d i : Nat,i + d = l.length→∃ r : Int,Ev (fun k=>slices_IndexFunc_int_int__impl_areSigns_1.l0 k l (l.length : Int) (i : Int)) r∧decide (r ≥ 0) = !okB (l.drop i)
  | 0,i,h=>⟨-1,Ev.step (fun f=>slices_IndexFunc_int_int__impl_areSigns_1.l0.eq_2 ..) (ev_neg (by omega) (Ev.now _)),by rw [List.drop_eq_nil_of_le (by omega)];rfl⟩
  | d + 1,i,h=>by
    have hlt : i < l.length:=by omega
    cases hc : (decide (-2 ≤ l[i]∧l[i] ≤ 2) && !decide (l[i] = 0)) with
    | true =>
      obtain ⟨r,h1,h2⟩:=bad_loop l hl d (i + 1) (by omega)
      refine ⟨r,Ev.step (fun f=>slices_IndexFunc_int_int__impl_areSigns_1.l0.eq_2 ..) (ev_pos (by omega) (ev_pos (by omega) (ev_pos (by omega) (ev_bind0 (bad_one _) (ev_neg (by rw [rd_at hlt,hc];decide) ?_))))),?_⟩
      · rw [wr (by omega) (by omega)];exact h1
      · rw [h2]
        unfold okB
        rw [List.drop_eq_getElem_cons hlt,List.all_cons,hc,Bool.true_and]
    | false =>
      refine ⟨i,Ev.step (fun f=>slices_IndexFunc_int_int__impl_areSigns_1.l0.eq_2 ..) (ev_pos (by omega) (ev_pos (by omega) (ev_pos (by omega) (ev_bind0 (bad_one _) (ev_pos (by rw [rd_at hlt,hc];rfl) (Ev.now _)))))),?_⟩
      unfold okB
      rw [List.drop_eq_getElem_cons hlt,List.all_cons,hc,Bool.false_and,decide_eq_true (by omega)]
      rfl
theorem bad_ev (l : List Int) (hl : l.length ≤ 1048576) : Ev (fun k=>slices_ContainsFunc_int_int__impl_areSigns_1.f k l) (!okB l):=by
  obtain ⟨r,h1,h2⟩:=bad_loop l hl l.length 0 (by omega);rw [List.drop_zero] at h2;exact Ev.bind h1 (ev_eq (Ev.now _) h2)
def cnt (a : Int) : Int:=wrap64 ((wrap64 ((wrap64 (2 * a)) + 1)) * (wrap64 ((wrap64 (2 * a)) + 1)))
/-- Are these labels for a reach? -/
def sgnB (a : Int) (l : List Int) : Bool:=decide (1 ≤ a∧a ≤ 4) && (decide ((l.length : Int) = cnt a) && okB l)
theorem labels_spec (a : Int) (l : List Int) (hl : l.length ≤ 1048576) : Ev (fun k=>spec_opLabels.f k a l) (sgnB a l):=by
  refine ev_bind0 (reach_spec a) ?_;unfold sgnB;by_cases h : 1 ≤ a∧a ≤ 4
  · rw [decide_eq_true h]
    refine ev_pos rfl (ev_bind0 (show spec_opCount.f a = some (cnt a) from rfl) ?_);by_cases h2 : (l.length : Int) = cnt a
    · have ha:=all_loop l hl l.length 0 (by omega)
      rw [List.drop_zero] at ha;rw [decide_eq_true h2];exact Ev.step (fun f=>spec_opLabels.j0.eq_2 ..) (ev_neg (by rw [h2,bne_self_eq_false];decide) ha)
    · rw [decide_eq_false h2]
      exact Ev.step (fun f=>spec_opLabels.j0.eq_2 ..) (ev_pos (bne_iff_ne.2 h2) (Ev.now _))
  · rw [decide_eq_false h]
    exact ev_neg (by decide) (Ev.step (fun f=>spec_opLabels.j0.eq_2 ..) (ev_pos rfl (Ev.now _)))
theorem labels_impl (a : Int) (l : List Int) (hl : l.length ≤ 1048576) : Ev (fun k=>impl_areSigns.f k a l) (sgnB a l):=by
  refine ev_bind0 (reach_impl a) ?_;unfold sgnB;by_cases h : 1 ≤ a∧a ≤ 4
  · rw [decide_eq_true h]
    refine ev_pos rfl ?_;by_cases h2 : (l.length : Int) = cnt a
    · rw [decide_eq_true h2]
      exact ev_pos h2 (Ev.bind (bad_ev l hl) (ev_eq (Ev.now _) (by cases okB l <;> rfl)))
    · rw [decide_eq_false h2]
      exact ev_neg h2 (Ev.now _)
  · rw [decide_eq_false h]
    exact ev_neg (by decide) (Ev.now _)
theorem lbl_of {L : List Int} {m : Nat} (hl : L.length = m) (hm : m ≤ 1000) (ho : okB L = true) : Lbl L m:=⟨hl,hm,fun i h0 h1=>by
  have hlt : i.toNat < L.length:=by omega
  have e : rd L i = L[i.toNat]:=by
    unfold rd;rw [List.getD_eq_getElem?_getD,List.getElem?_eq_getElem hlt];rfl
  rw [e];have:=List.all_eq_true.1 ho _ (List.getElem_mem hlt);simp only [Bool.and_eq_true,Bool.not_eq_true',decide_eq_true_eq,decide_eq_false_iff_not] at this;exact ⟨this.1.1,this.1.2,this.2⟩⟩
theorem cnt_tab : ((List.range 5).all fun n=>n == 0 || decide (cnt (n : Int) = (pts n : Int))) = true:=by decide +kernel
/-- Labels that are taken. -/
theorem home_of {a : Int} {l : List Int} (h : sgnB a l = true) : ∃ n : Nat,a = (n : Int)∧Home n l:=by
  unfold sgnB at h;simp only [Bool.and_eq_true,decide_eq_true_eq] at h;obtain ⟨⟨h1,h2⟩,h3,h4⟩:=h;have e : a = ((a.toNat : Nat) : Int):=by omega
  have s : Side a.toNat:=⟨by omega,by omega⟩;refine ⟨a.toNat,e,s,?_⟩;rw [e] at h3;have c:=of_decide_eq_true (s.tab cnt_tab);exact lbl_of (by omega) (by have:=s.pts_le;omega) h4
/-! ### tables -/
theorem cellsI_tab : ((List.range 5).all fun n=>n == 0 || impl_square_cells.f 30000 (n : Int) == some (cellsT n)) = true:=by decide +kernel
theorem cellsS_tab : ((List.range 5).all fun n=>n == 0 || spec_opCells.f 200 (n : Int) == some (cellsT n)) = true:=by decide +kernel
theorem bordI_tab : ((List.range 5).all fun n=>n == 0 || impl_square_border.f 100 (n : Int) == some (bordT n)) = true:=by decide +kernel
theorem bordS_tab : ((List.range 5).all fun n=>n == 0 || spec_opBorder.f 100 (n : Int) == some (bordT n)) = true:=by decide +kernel
section
variable {n : Nat} (h : Side n)
include h
theorem Side.cellsI : Ev (fun k=>impl_square_cells.f k (n : Int)) (cellsT n):=Ev.of (fun k=>impl_square_cells.mono _ k) (eq_of_beq (h.tab cellsI_tab))
theorem Side.cellsS : Ev (fun k=>spec_opCells.f k (n : Int)) (cellsT n):=Ev.of (fun k=>spec_opCells.mono _ k) (eq_of_beq (h.tab cellsS_tab))
theorem Side.bordI : Ev (fun k=>impl_square_border.f k (n : Int)) (bordT n):=Ev.of (fun k=>impl_square_border.mono _ k) (eq_of_beq (h.tab bordI_tab))
theorem Side.bordS : Ev (fun k=>spec_opBorder.f k (n : Int)) (bordT n):=Ev.of (fun k=>spec_opBorder.mono _ k) (eq_of_beq (h.tab bordS_tab))
end
/-! ### steps along the border, doors -/
def step (B : List Int) (t : Nat) : List Int:=[rd B (t : Int),rd B (Int.ofNat ((t + 1) % B.length))]
theorem stepsT_eq (B : List Int) : stepsT B = (List.range B.length).map (step B):=rfl
theorem steps_loop (B : List Int) (hB : B.length ≤ 1000) : ∀ d i : Nat,i + d = B.length→Ev (fun k=>impl_square_steps.l0 k ((List.range i).map (step B)) B B (B.length : Int) (i : Int)) (stepsT B)
  | 0,i,h=>Ev.step (fun f=>impl_square_steps.l0.eq_2 ..) (ev_neg (by omega) (ev_eq (Ev.now _) (by rw [stepsT_eq,show i = B.length from h])))
  | d + 1,i,h=>by
    have ih:=steps_loop B hB d (i + 1) (by omega)
    have ht : Int.tmod (wrap64 ((i : Int) + 1)) (B.length : Int) = Int.ofNat ((i + 1) % B.length):=by rw [wr (by omega) (by omega)];rfl
    have hm:=Nat.mod_lt (i + 1) (show B.length > 0 by omega)
    refine Ev.step (fun f=>impl_square_steps.l0.eq_2 ..) (ev_pos (by omega) (ev_pos (by omega) (ev_pos (by omega) (ev_neg (by omega) ?_))))
    rw [ht]
    refine ev_pos (Int.natCast_nonneg _) (ev_pos (Int.ofNat_lt.2 hm) (ev_pos (by rw [List.length_map,List.length_range];omega) ?_))
    rw [wr (by omega) (by omega)]
    rw [List.range_succ,List.map_append] at ih
    exact ih
/-- The doors of the border. -/
def gates (n : Nat) (L : List Int) : List (List Int):=(stepsT (bordT n)).filter (dr L)
section
variable {n : Nat} {L : List Int} (H : Home n L)
include H
theorem Home.lenB : (bordT n).length ≤ 32:=by rw [H.side.geo.2.1];have:=H.side.hi;omega
theorem Home.step {s : List Int} (hs : s ∈ stepsT (bordT n)) : ∃ x y,s = [x,y]∧(0 ≤ x∧x < (pts n : Int))∧(0 ≤ y∧y < (pts n : Int)):=by
  have a:=H.side.geo.2.2.2 s hs;rw [stepsT_eq] at hs;obtain ⟨t,_,e⟩:=List.mem_map.1 hs;unfold okStep at a;simp only [Bool.and_eq_true,decide_eq_true_eq] at a;refine ⟨rd s 0,rd s 1,?_,⟨a.1.1.1.1,a.1.1.1.2⟩,⟨a.1.1.2,a.1.2⟩⟩;rw [← e];rfl
theorem Home.steps_ev : Ev (fun k=>impl_square_steps.f k (n : Int)) (stepsT (bordT n)) :=
  Ev.bind H.side.bordI (steps_loop (bordT n) (Nat.le_trans H.lenB (by decide)) (bordT n).length 0 (Nat.zero_add _))
theorem Home.steps_len : (stepsT (bordT n)).length ≤ 32:=by rw [stepsT_eq,List.length_map,List.length_range];exact H.lenB
theorem Home.gates_len : (gates n L).length ≤ 32:=Nat.le_trans (List.length_filter_le _ _) H.steps_len
theorem Home.gate_len {s : List Int} (hs : s ∈ gates n L) : s.length = 2:=by
  obtain ⟨x,y,e,_,_⟩:=H.step (List.mem_filter.1 hs).1;rw [e];rfl
theorem Home.sign_door {x y : Int} (hx : 0 ≤ x∧x < (pts n : Int)) (hy : 0 ≤ y∧y < (pts n : Int)) : impl_signDoor.f (rd L x) (rd L y) = some (dr L [x,y]):=by
  have h1:=H.lbl.ok x hx.1 hx.2;have h2:=H.lbl.ok y hy.1 hy.2;unfold impl_signDoor.f dr;rw [wr (by omega) (by omega),show rd [x,y] 0 = x from rfl,show rd [x,y] 1 = y from rfl];generalize rd L x = u at *;generalize rd L y = v at *;by_cases h : u + v = 3
  · rw [if_pos h,decide_eq_true h]
    have : (u = 1∧v = 2) ∨ (u = 2∧v = 1):=by omega
    rcases this with ⟨e1,e2⟩|⟨e1,e2⟩ <;> (rw [e1,e2,wr (by decide) (by decide)];rfl)
  · rw [if_neg h,decide_eq_false h]
theorem Home.op_door {x y : Int} (hx : 0 ≤ x∧x < (pts n : Int)) (hy : 0 ≤ y∧y < (pts n : Int)) : spec_opDoor.f L x y = some (dr L [x,y]):=by
  have h1:=H.lbl.ok x hx.1 hx.2;have h2:=H.lbl.ok y hy.1 hy.2;have hl:=H.lbl.len;unfold spec_opDoor.f dr;rw [if_pos hx.1,if_pos (by omega),if_pos hy.1,if_pos (by omega),wr (by omega) (by omega)];congr 1
theorem Home.entry {s : List Int} (hs : s ∈ stepsT (bordT n)) : impl_squareDoors_1.f s [L] = some (!dr L s):=by
  obtain ⟨x,y,e,hx,hy⟩:=H.step hs;subst e;have hl:=H.lbl.len;have e0 : rd_L2 [L] 0 = L:=rfl;have e1 : rd [x,y] 0 = x:=rfl;have e2 : rd [x,y] 1 = y:=rfl;unfold impl_squareDoors_1.f;rw [e0,e1,e2,if_pos (by simp),if_pos (by simp),if_pos hx.1,if_pos (by omega),if_pos (by simp),if_pos hy.1,if_pos (by omega),H.sign_door hx hy];rfl
theorem Home.entries_ev : Ev (fun k=>impl_squareDoors.f k (n : Int) L) (gates n L):=by
  refine Ev.bind H.steps_ev (ev_pos ?_ (ev_eq (Ev.now _) ?_))
  · rw [Bool.and_eq_true,decide_eq_true_eq]
    refine ⟨List.all_eq_true.2 fun s hs=>by rw [H.entry hs];rfl,?_⟩;have:=H.steps_len;omega
  · unfold gates
    refine List.filter_congr fun s hs=>?_
    unfold impl_squareDoors.q;rw [H.entry hs];cases dr L s <;> rfl
theorem Home.doors_loop : ∀ d i : Nat,i + d = (bordT n).length→Ev (fun k=>spec_opDoors.l0 k L (bordT n) (((List.range i).map (QFnOppositeEdgesFound.step (bordT n))).filter (dr L)) (bordT n) ((bordT n).length : Int) (i : Int)) (gates n L)
  | 0,i,h=>Ev.step (fun f=>spec_opDoors.l0.eq_2 ..) (ev_neg (by omega) (ev_eq (Ev.now _) (by unfold gates;rw [stepsT_eq,show i = (bordT n).length from h])))
  | d + 1,i,h=>by
    have ih:=Home.doors_loop d (i + 1) (by omega)
    have hB:=H.lenB
    have ht : Int.tmod (wrap64 ((i : Int) + 1)) ((bordT n).length : Int) = Int.ofNat ((i + 1) % (bordT n).length):=by rw [wr (by omega) (by omega)];rfl
    have hm:=Nat.mod_lt (i + 1) (show (bordT n).length > 0 by omega)
    have hst : QFnOppositeEdgesFound.step (bordT n) i ∈ stepsT (bordT n):=by rw [stepsT_eq];exact List.mem_map_of_mem (List.mem_range.2 (by omega))
    obtain ⟨x,y,e,hx,hy⟩:=H.step hst
    have e1 : rd (bordT n) (i : Int) = x:=by
      have:=congrArg (fun l : List Int=>rd l 0) e;exact this
    have e2 : rd (bordT n) (Int.ofNat ((i + 1) % (bordT n).length)) = y:=by
      have:=congrArg (fun l : List Int=>rd l 1) e;exact this
    have hf:=List.length_filter_le (dr L) ((List.range i).map (QFnOppositeEdgesFound.step (bordT n)));rw [List.length_map,List.length_range] at hf;refine Ev.step (fun f=>spec_opDoors.l0.eq_2 ..) (ev_pos (by omega) (ev_pos (by omega) (ev_pos (by omega) (ev_neg (by omega) ?_))));rw [ht];refine ev_pos (Int.natCast_nonneg _) (ev_pos (Int.ofNat_lt.2 hm) ?_);rw [e1,e2,wr (by omega) (by omega)];rw [List.range_succ,List.map_append,List.filter_append,List.map_singleton,e,List.filter_cons,List.filter_nil] at ih;refine ev_bind0 (H.op_door hx hy) ?_;by_cases hd : dr L [x,y] = true
    · rw [if_pos hd] at ih
      exact ev_pos hd (ev_pos (by omega) ih)
    · rw [if_neg hd,List.append_nil] at ih
      exact ev_neg hd ih
theorem Home.doors_ev : Ev (fun k=>spec_opDoors.f k (n : Int) L) (gates n L) :=
  Ev.bind H.side.bordS (H.doors_loop (bordT n).length 0 (Nat.zero_add _))
omit H in
theorem dr_inner (L : List Int) (s : List Int) : dr L (inner s) = dr L s:=by
  have e0 : rd (inner s) 0 = mn (rd s 0) (rd s 1):=rfl;have e1 : rd (inner s) 1 = mx (rd s 0) (rd s 1):=rfl;unfold dr;rw [e0,e1,decide_eq_decide];unfold mn mx;by_cases h : rd s 1 < rd s 0
  · rw [if_pos h,if_neg (by omega)];omega
  · by_cases h2 : rd s 0 < rd s 1
    · rw [if_neg h,if_pos h2]
    · rw [if_neg h,if_neg h2,show rd s 1 = rd s 0 by omega]
theorem Home.begin {s : List Int} (hs : s ∈ gates n L) : 0 < (wth (cellsT n) (rd (inner s) 0) (rd (inner s) 1)).length∧0 ≤ beyAt n (-1) (inner s)∧Path.Begin (beyAt n) (fullAt n L) (doorAt n L) (cnr n) (beyAt n (-1) (inner s)) (inner s):=by
  obtain ⟨hs,hd⟩:=List.mem_filter.1 hs;have a:=H.side.geo.2.2.2 s hs;unfold okStep at a;simp only [Bool.and_eq_true] at a;have b:=a.2;have hlen:=H.len;revert b;unfold beyAt bey;generalize hW : wth (cellsT n) (rd (inner s) 0) (rd (inner s) 1) = W;intro b;match W,b,hW with
  | [p],b,hW =>
    simp only [Bool.and_eq_true,decide_eq_true_eq] at b;obtain ⟨⟨b1,b2⟩,b3⟩:=b;have x1 : fb [p] (-1) = p:=by simp [fb];omega
    rw [x1];refine ⟨by simp,b1,fun _=>⟨⟨b1,by omega⟩,?_⟩,fun _=>.inl (by show fb (wth (cellsT n) (rd (inner s) 0) (rd (inner s) 1)) p = -1;rw [hW];unfold fb;rw [if_pos rfl];rfl)⟩;unfold doorAt doorsL cl;exact List.mem_filter.2 ⟨List.contains_iff_mem.1 b3,by rw [dr_inner];exact hd⟩
theorem Home.wne {c : Int} (hc : Path.inC (cnr n) c) {d : List Int} (hd : doorAt n L c d) : 0 < (wth (cellsT n) (rd d 0) (rd d 1)).length:=by
  have a:=H.cell hc;unfold doorAt doorsL at hd;obtain ⟨he,_⟩:=List.mem_filter.1 hd;unfold okCell at a;simp only [Bool.and_eq_true] at a;have b:=List.all_eq_true.1 a.2 d he;revert b;generalize wth (cellsT n) (rd d 0) (rd d 1) = W;intro b;match W,b with
  | [p],b=>simp
  | [p,q],b=>simp
end
end Go.Proofs.Ytlolkkfpfjlhmaa.QFnOppositeEdgesFound
/-! Labels of squares as they are drawn: some labels, not too many, whatever the bytes are. -/
namespace Go.Proofs.Ytlolkkfpfjlhmaa.QFnOppositeEdgesFound
open Go.RowKit Go.Proofs.Ytlolkkfpfjlhmaa.PFnOppositeEdgesFound Go.Proofs.YtlolkkfpfjlhmaaW.PrintWords Go.Proofs.YtlolkkfpfjlhmaaW.PrintLast Go.Proofs.YtlolkkfpfjlhmaaW.PrintMore
set_option linter.unusedVariables false
set_option linter.unusedSimpArgs false
set_option maxRecDepth 100000
theorem at_some {n : Int} (hn : n = 1 ∨ n = 2) (i : Int) : ∃ u v,spec_opAt.f n i = some (u,v):=by
  unfold spec_opAt.f;rcases hn with rfl|rfl <;> exact ⟨_,_,if_neg (by decide +kernel)⟩
theorem abs_some (u : Int) : ∃ t,spec_l1Abs.f u = some t:=by
  unfold spec_l1Abs.f spec_l1Most.f;split <;> exact ⟨_,rfl⟩
/-- What is asked of what is drawn. -/
def Drw (m : Nat) (a b : Int) (r : Int × List Int × Int × Int) : Prop:=r.2.1.length = m∧0 ≤ r.2.2.1∧r.2.2.1 ≤ a + b
section
variable {l : List Int} (hU : U8 l) {n : Int} (hn : n = 1 ∨ n = 2) {m : Nat} (hm : m ≤ 25) (hm0 : 0 < m)
include hU hn hm hm0
theorem opp_l2 : ∀ (d i : Nat) (L : List Int) (a s : Int),i + d = m→L.length = m→0 ≤ a→a ≤ 1000000→∃ r,Drw m a 10 r∧Ev (fun k=>spec_l1Cur_opposite.l2 k n L (m : Int) (i : Int) l a s) r
  | 0,i,L,a,s,h,hL,h0,h1=>by
    obtain ⟨v,a1,s1,e1,v0,v1,p1,p2⟩:=pick_ev hU s 12 h0 (by omega)
    by_cases c0 : v = 0
    · obtain ⟨q,a2,s2,e2,q0,q1,p3,p4⟩:=pick_ev hU s1 (L.length : Int) (show 0 ≤ a1 by omega) (by omega)
      obtain ⟨x,a3,s3,e3,x0,p5,p6⟩:=among_ev hU s2 [0,3,-3,1,4611686018427387904] (by decide) (show 0 ≤ a2 by omega) (by omega)
      refine ⟨(n,L.set q.toNat x,a3,s3),⟨by show (L.set q.toNat x).length = m;rw [List.length_set];exact hL,by show 0 ≤ a3;omega,by show a3 ≤ a + 10;omega⟩,Ev.step (fun f=>spec_l1Cur_opposite.l2.eq_2 ..) (ev_neg (by omega) (ev_bind0 e1 (ev_pos c0 (ev_bind0 e2 (ev_bind0 e3 (ev_pos q0 (ev_pos ?_ (Ev.now _))))))))⟩
      show q < (L.length : Int)
      omega
    · by_cases c1 : v = 1
      · obtain ⟨x,a3,s3,e3,x0,p5,p6⟩:=among_ev hU s1 [0,3,4,5] (by decide) (show 0 ≤ a1 by omega) (by omega)
        exact ⟨(x,L,a3,s3),⟨hL,by show 0 ≤ a3;omega,by show a3 ≤ a + 10;omega⟩,Ev.step (fun f=>spec_l1Cur_opposite.l2.eq_2 ..) (ev_neg (by omega) (ev_bind0 e1 (ev_neg c0 (ev_pos c1 (ev_bind0 e3 (Ev.now _))))))⟩
      · exact ⟨(n,L,a1,s1),⟨hL,by show 0 ≤ a1;omega,by show a1 ≤ a + 10;omega⟩,Ev.step (fun f=>spec_l1Cur_opposite.l2.eq_2 ..) (ev_neg (by omega) (ev_bind0 e1 (ev_neg c0 (ev_neg c1 (Ev.now _)))))⟩
  | d + 1,i,L,a,s,h,hL,h0,h1=>by
    obtain ⟨u,v,huv⟩:=at_some hn (i : Int)
    obtain ⟨t1,g1⟩:=abs_some u
    obtain ⟨t2,g2⟩:=abs_some v
    have w1 : wrap64 ((i : Int) + 1) = ((i + 1 : Nat) : Int):=by rw [wr (by omega) (by omega)];omega
    have w2 : wrap64 ((wrap64 ((L.length : Int) - 1)) - (i : Int)) = (L.length : Int) - 1 - (i : Int):=by rw [wr (x:=(L.length : Int) - 1) (by omega) (by omega),wr (by omega) (by omega)]
    by_cases c1 : t1 = n
    · obtain ⟨r,r1,r2⟩:=opp_l2 d (i + 1) (L.set ((L.length : Int) - 1 - (i : Int)).toNat (wrap64 (-(rd L (i : Int))))) a s (by omega) (by rw [List.length_set];exact hL) h0 h1
      refine ⟨r,r1,Ev.step (fun f=>spec_l1Cur_opposite.l2.eq_2 ..) (ev_pos (by omega) (ev_bind0 huv (ev_bind0 g1 (ev_pos c1 (ev_pos (by omega) (ev_pos (by omega) ?_))))))⟩
      rw [w1,w2]
      exact ev_pos (by omega) (ev_pos (by omega) r2)
    · by_cases c2 : t2 = n
      · obtain ⟨r,r1,r2⟩:=opp_l2 d (i + 1) (L.set ((L.length : Int) - 1 - (i : Int)).toNat (wrap64 (-(rd L (i : Int))))) a s (by omega) (by rw [List.length_set];exact hL) h0 h1
        refine ⟨r,r1,Ev.step (fun f=>spec_l1Cur_opposite.l2.eq_2 ..) (ev_pos (by omega) (ev_bind0 huv (ev_bind0 g1 (ev_neg c1 (ev_bind0 g2 (ev_pos c2 (ev_pos (by omega) (ev_pos (by omega) ?_))))))))⟩
        rw [w1,w2]
        exact ev_pos (by omega) (ev_pos (by omega) r2)
      · obtain ⟨r,r1,r2⟩:=opp_l2 d (i + 1) L a s (by omega) hL h0 h1
        refine ⟨r,r1,Ev.step (fun f=>spec_l1Cur_opposite.l2.eq_2 ..) (ev_pos (by omega) (ev_bind0 huv (ev_bind0 g1 (ev_neg c1 (ev_bind0 g2 (ev_neg c2 ?_))))))⟩
        rw [w1]
        exact r2
theorem opp_j5 (L : List Int) (a s : Int) (hL : L.length = m) (h0 : 0 ≤ a) (h1 : a ≤ 1000000) : ∃ r,Drw m a 10 r∧Ev (fun k=>spec_l1Cur_opposite.j5 k n L l a s) r:=by
  obtain ⟨r,r1,r2⟩:=opp_l2 hU hn hm hm0 m 0 L a s (Nat.zero_add _) hL h0 h1;refine ⟨r,r1,Ev.step (fun f=>spec_l1Cur_opposite.j5.eq_2 ..) ?_⟩;rw [hL];exact r2
omit hn hm hm0 in
/-- A point's label by its quarter, mostly. -/
theorem paint {Q : (Int × List Int × Int × Int)→Prop} (L : List Int) (a s c x7 : Int) (i : Nat) (hc : 0 ≤ c∧c ≤ 3) (hx : 0 ≤ x7∧x7 ≤ 3) (hi : i < m) (hL : L.length = m) (h0 : 0 ≤ a) (h1 : a ≤ 1000000)
    (go : ∀ L' a' s',L'.length = m→0 ≤ a'→a' ≤ a + 2→∃ r,Q r∧Ev (fun k=>spec_l1Cur_opposite.l1 k n L' x7 (m : Int) (wrap64 ((i : Int) + 1)) l a' s') r) :
    ∃ r,Q r∧Ev (fun k=>(spec_l1Cur_one.f l a s 9).bind fun bt=>if bt.1 = true then spec_l1Cur_opposite.l1 k n L x7 (m : Int) (wrap64 ((i : Int) + 1)) l bt.2.1 bt.2.2 else (some ([1,2,-1,-2] : List Int)).bind fun y=>if 0 ≤ Int.tmod (wrap64 (c + x7)) 4 then (if Int.tmod (wrap64 (c + x7)) 4 < (y.length : Int) then (if 0 ≤ (i : Int) then (if (i : Int) < (L.length : Int) then spec_l1Cur_opposite.l1 k n (L.set ((i : Int)).toNat (rd y (Int.tmod (wrap64 (c + x7)) 4))) x7 (m : Int) (wrap64 ((i : Int) + 1)) l bt.2.1 bt.2.2 else none) else none) else none) else none) r:=by
  obtain ⟨b,a1,s1,e1,p1,p2⟩:=one_ev hU s 9 h0 (by omega)
  have ht : 0 ≤ Int.tmod (wrap64 (c + x7)) 4∧Int.tmod (wrap64 (c + x7)) 4 < 4:=by
    rw [wr (by omega) (by omega)];exact ⟨Int.tmod_nonneg _ (by omega),Int.tmod_lt_of_pos _ (by omega)⟩
  cases b with
  | true =>
    obtain ⟨r,r1,r2⟩:=go L a1 s1 hL (by omega) (by omega);exact ⟨r,r1,ev_bind0 e1 (ev_pos rfl r2)⟩
  | false =>
    obtain ⟨r,r1,r2⟩:=go (L.set ((i : Int)).toNat (rd [1,2,-1,-2] (Int.tmod (wrap64 (c + x7)) 4))) a1 s1 (by rw [List.length_set];exact hL) (by omega) (by omega);exact ⟨r,r1,ev_bind0 e1 (ev_neg Bool.false_ne_true (ev_bind0 rfl (ev_pos ht.1 (ev_pos ht.2 (ev_pos (by omega) (ev_pos (by omega) r2))))))⟩
theorem opp_l1 (x7 : Int) (hx : 0 ≤ x7∧x7 ≤ 3) : ∀ (d i : Nat) (L : List Int) (a s : Int),i + d = m→L.length = m→0 ≤ a→a + 2 * (d : Int) ≤ 500000→∃ r,Drw m a (2 * (d : Int) + 10) r∧Ev (fun k=>spec_l1Cur_opposite.l1 k n L x7 (m : Int) (i : Int) l a s) r
  | 0,i,L,a,s,h,hL,h0,h1=>by
    obtain ⟨r,r1,r2⟩:=opp_j5 hU hn hm hm0 L a s hL h0 (by omega)
    exact ⟨r,⟨r1.1,r1.2.1,by have:=r1.2.2;omega⟩,Ev.step (fun f=>spec_l1Cur_opposite.l1.eq_2 ..) (ev_neg (by omega) r2)⟩
  | d + 1,i,L,a,s,h,hL,h0,h1=>by
    have w1 : wrap64 ((i : Int) + 1) = ((i + 1 : Nat) : Int):=by rw [wr (by omega) (by omega)];omega
    have go : ∀ L' a' s',L'.length = m→0 ≤ a'→a' ≤ a + 2→∃ r,Drw m a (2 * ((d + 1 : Nat) : Int) + 10) r∧Ev (fun k=>spec_l1Cur_opposite.l1 k n L' x7 (m : Int) (wrap64 ((i : Int) + 1)) l a' s') r:=fun L' a' s' hL' g0 g1=>by
      obtain ⟨r,r1,r2⟩:=opp_l1 x7 hx d (i + 1) L' a' s' (by omega) hL' g0 (by omega)
      rw [w1]
      exact ⟨r,⟨r1.1,r1.2.1,by have:=r1.2.2;omega⟩,r2⟩
    obtain ⟨u,v,huv⟩:=at_some hn (i : Int)
    obtain ⟨t1,g1⟩:=abs_some u
    have j4 : ∀ b,∃ r,Drw m a (2 * ((d + 1 : Nat) : Int) + 10) r∧Ev (fun k=>spec_l1Cur_opposite.j4 k n L x7 (i : Int) 3 (m : Int) (i : Int) b l a s) r:=fun b=>by
      cases b with
      | true =>
        obtain ⟨r,r1,r2⟩:=paint hU (n:=n) (m:=m) L a s 2 x7 i (by decide) hx (by omega) hL h0 (by omega) go
        exact ⟨r,r1,Ev.step (fun f=>spec_l1Cur_opposite.j4.eq_2 ..) (ev_pos rfl r2)⟩
      | false =>
        obtain ⟨r,r1,r2⟩:=paint hU (n:=n) (m:=m) L a s 3 x7 i (by decide) hx (by omega) hL h0 (by omega) go
        exact ⟨r,r1,Ev.step (fun f=>spec_l1Cur_opposite.j4.eq_2 ..) (ev_neg Bool.false_ne_true r2)⟩
    have j3 : ∀ b,∃ r,Drw m a (2 * ((d + 1 : Nat) : Int) + 10) r∧Ev (fun k=>spec_l1Cur_opposite.j3 k n L x7 (i : Int) u v 3 (m : Int) (i : Int) b l a s) r:=fun b=>by
      cases b with
      | true =>
        obtain ⟨r,r1,r2⟩:=paint hU (n:=n) (m:=m) L a s 1 x7 i (by decide) hx (by omega) hL h0 (by omega) go
        exact ⟨r,r1,Ev.step (fun f=>spec_l1Cur_opposite.j3.eq_2 ..) (ev_pos rfl r2)⟩
      | false =>
        by_cases c1 : u < 0
        · by_cases c2 : v ≥ 0
          · obtain ⟨r,r1,r2⟩:=j4 (decide (v ≤ wrap64 (-u)))
            exact ⟨r,r1,Ev.step (fun f=>spec_l1Cur_opposite.j3.eq_2 ..) (ev_neg Bool.false_ne_true (ev_pos c1 (ev_pos c2 r2)))⟩
          · obtain ⟨r,r1,r2⟩:=j4 false
            exact ⟨r,r1,Ev.step (fun f=>spec_l1Cur_opposite.j3.eq_2 ..) (ev_neg Bool.false_ne_true (ev_pos c1 (ev_neg c2 r2)))⟩
        · obtain ⟨r,r1,r2⟩:=j4 false
          exact ⟨r,r1,Ev.step (fun f=>spec_l1Cur_opposite.j3.eq_2 ..) (ev_neg Bool.false_ne_true (ev_neg c1 r2))⟩
    have j2 : ∀ b,∃ r,Drw m a (2 * ((d + 1 : Nat) : Int) + 10) r∧Ev (fun k=>spec_l1Cur_opposite.j2 k n L x7 (i : Int) u v 3 (m : Int) (i : Int) b l a s) r:=fun b=>by
      cases b with
      | true =>
        obtain ⟨r,r1,r2⟩:=paint hU (n:=n) (m:=m) L a s 0 x7 i (by decide) hx (by omega) hL h0 (by omega) go
        exact ⟨r,r1,Ev.step (fun f=>spec_l1Cur_opposite.j2.eq_2 ..) (ev_pos rfl r2)⟩
      | false =>
        by_cases c1 : v > 0
        · obtain ⟨r,r1,r2⟩:=j3 (decide (t1 ≤ v))
          exact ⟨r,r1,Ev.step (fun f=>spec_l1Cur_opposite.j2.eq_2 ..) (ev_neg Bool.false_ne_true (ev_pos c1 (ev_bind0 g1 r2)))⟩
        · obtain ⟨r,r1,r2⟩:=j3 false
          exact ⟨r,r1,Ev.step (fun f=>spec_l1Cur_opposite.j2.eq_2 ..) (ev_neg Bool.false_ne_true (ev_neg c1 r2))⟩
    by_cases c1 : u > 0
    · by_cases c2 : v ≤ 0
      · obtain ⟨r,r1,r2⟩:=j2 (decide (wrap64 (-v) ≤ u))
        exact ⟨r,r1,Ev.step (fun f=>spec_l1Cur_opposite.l1.eq_2 ..) (ev_pos (by omega) (ev_bind0 huv (ev_pos c1 (ev_pos c2 r2))))⟩
      · obtain ⟨r,r1,r2⟩:=j2 false
        exact ⟨r,r1,Ev.step (fun f=>spec_l1Cur_opposite.l1.eq_2 ..) (ev_pos (by omega) (ev_bind0 huv (ev_pos c1 (ev_neg c2 r2))))⟩
    · obtain ⟨r,r1,r2⟩:=j2 false
      exact ⟨r,r1,Ev.step (fun f=>spec_l1Cur_opposite.l1.eq_2 ..) (ev_pos (by omega) (ev_bind0 huv (ev_neg c1 r2)))⟩
theorem opp_l0 : ∀ (d i : Nat) (L : List Int) (a s : Int),i + d = m→L.length = m→0 ≤ a→a + 2 * (d : Int) ≤ 100000→∃ r,Drw m a (2 * (d : Int) + 100) r∧Ev (fun k=>spec_l1Cur_opposite.l0 k n L (m : Int) (i : Int) l a s) r
  | 0,i,L,a,s,h,hL,h0,h1=>by
    obtain ⟨b,a1,s1,e1,p1,p2⟩:=one_ev hU s 2 h0 (by omega)
    cases b with
    | true =>
      obtain ⟨v,a2,s2,e2,v0,v1,p3,p4⟩:=pick_ev hU s1 4 (show 0 ≤ a1 by omega) (by omega)
      obtain ⟨r,r1,r2⟩:=opp_l1 hU hn hm hm0 v (by omega) m 0 L a2 s2 (Nat.zero_add _) hL (by omega) (by omega)
      refine ⟨r,⟨r1.1,r1.2.1,by have:=r1.2.2;omega⟩,Ev.step (fun f=>spec_l1Cur_opposite.l0.eq_2 ..) (ev_neg (by omega) (ev_bind0 e1 (ev_pos rfl (ev_bind0 e2 ?_))))⟩
      rw [hL]
      exact r2
    | false =>
      obtain ⟨r,r1,r2⟩:=opp_j5 hU hn hm hm0 L a1 s1 hL (by omega) (by omega)
      exact ⟨r,⟨r1.1,r1.2.1,by have:=r1.2.2;omega⟩,Ev.step (fun f=>spec_l1Cur_opposite.l0.eq_2 ..) (ev_neg (by omega) (ev_bind0 e1 (ev_neg Bool.false_ne_true r2)))⟩
  | d + 1,i,L,a,s,h,hL,h0,h1=>by
    have w1 : wrap64 ((i : Int) + 1) = ((i + 1 : Nat) : Int):=by rw [wr (by omega) (by omega)];omega
    obtain ⟨x,a1,s1,e1,x0,p1,p2⟩:=among_ev hU s [1,2,-1,-2] (by decide) h0 (by omega)
    obtain ⟨r,r1,r2⟩:=opp_l0 d (i + 1) (L.set ((i : Int)).toNat x) a1 s1 (by omega) (by rw [List.length_set];exact hL) (by omega) (by omega)
    refine ⟨r,⟨r1.1,r1.2.1,by have:=r1.2.2;omega⟩,Ev.step (fun f=>spec_l1Cur_opposite.l0.eq_2 ..) (ev_pos (by omega) (ev_bind0 e1 (ev_pos (by omega) (ev_pos (by omega) ?_))))⟩
    rw [w1]
    exact r2
end
/-- Some labels, and how far the bytes are read. -/
theorem opp_draw {l : List Int} (hU : U8 l) : ∃ r : Int × List Int × Int × Int,r.2.1.length ≤ 25∧0 < r.2.1.length∧0 ≤ r.2.2.1∧r.2.2.1 ≤ 1000∧Ev (fun k=>spec_l1Cur_opposite.f k l 0 0) r:=by
  obtain ⟨v,a1,s1,e1,v0,v1,p1,p2⟩:=pick_ev hU 0 2 (Int.le_refl 0) (by decide);have hv : v = 0 ∨ v = 1:=by omega
  have fin : ∀ (n : Int) (m : Nat),(n = 1 ∨ n = 2)→wrap64 (1 + v) = n→spec_opCount.f n = some (m : Int)→m ≤ 25→0 < m→∃ r : Int × List Int × Int × Int,r.2.1.length ≤ 25∧0 < r.2.1.length∧0 ≤ r.2.2.1∧r.2.2.1 ≤ 1000∧Ev (fun k=>spec_l1Cur_opposite.f k l 0 0) r:=fun n m hn hw hc hm hm0=>by
    obtain ⟨r,r1,r2⟩:=opp_l0 hU hn hm hm0 m 0 (List.replicate m 0) a1 s1 (Nat.zero_add _) List.length_replicate (by omega) (by omega);have r3:=r1.2.2;refine ⟨r,by rw [r1.1];exact hm,by rw [r1.1];exact hm0,r1.2.1,by omega,ev_bind0 e1 ?_⟩;rw [hw];refine ev_bind0 hc (ev_pos (by omega) (ev_pos (by omega) (ev_bind0 rfl ?_)));rw [Int.toNat_natCast,List.length_replicate];exact r2
  rcases hv with rfl|rfl
  · exact fin 1 9 (.inl rfl) (by decide +kernel) (by decide +kernel) (by decide) (by decide)
  · exact fin 2 25 (.inr rfl) (by decide +kernel) (by decide +kernel) (by decide) (by decide)
/-- Labels for FindOpposite. -/
theorem draw_find {l : List Int} (hU : U8 l) : ∃ r : Int × List Int,r.2.length ≤ 25∧Ev (fun k=>spec_DrawFindOpposite.f k l) r:=by
  obtain ⟨r,h1,h2,h3,h4,h5⟩:=opp_draw hU;exact ⟨(r.1,r.2.1),h1,Ev.bind (Ev.bind h5 (Ev.now _)) (Ev.now _)⟩
/-- Labels and a door for SquareWalk. -/
theorem draw_walk {l : List Int} (hU : U8 l) : ∃ r : Int × List Int × Int × Int,r.2.1.length ≤ 25∧Ev (fun k=>spec_DrawSquareWalk.f k l) r:=by
  obtain ⟨⟨n,L,a,s⟩,h1,h2,h3,h4,h5⟩:=opp_draw hU;have h1 : L.length ≤ 25:=h1;have h2 : 0 < L.length:=h2;have h3 : 0 ≤ a:=h3;have h4 : a ≤ 1000:=h4;have hs:=labels_spec n L (by omega);cases hk : sgnB n L with
  | false =>
    rw [hk] at hs;exact ⟨(n,L,0,1),h1,Ev.bind h5 (Ev.bind hs (ev_neg Bool.false_ne_true (Ev.now _)))⟩
  | true =>
    rw [hk] at hs;obtain ⟨nn,e,H⟩:=home_of hk;subst e
    have last : ∀ (a s : Int),0 ≤ a→a ≤ 2000→∃ r : Int × List Int × Int × Int,r.2.1.length ≤ 25∧Ev (fun k=>spec_DrawSquareWalk.j0 k (nn : Int) L (gates nn L) false l a s) r:=fun a s g0 g1=>by
      obtain ⟨v,a1,s1,e1,v0,v1,p1,p2⟩:=pick_ev hU s (L.length : Int) g0 (by omega);obtain ⟨v',a2,s2,e2,w0,w1,p3,p4⟩:=pick_ev hU s1 (L.length : Int) (show 0 ≤ a1 by omega) (by omega);exact ⟨((nn : Int),L,v,v'),h1,Ev.step (fun f=>spec_DrawSquareWalk.j0.eq_2 ..) (ev_neg Bool.false_ne_true (ev_bind0 e1 (ev_bind0 e2 (Ev.now _))))⟩
    have hG:=H.gates_len;by_cases hg : ((gates nn L).length : Int) > 0
    · obtain ⟨b,a1,s1,e1,p1,p2⟩:=one_ev hU s 5 h3 (by omega)
      cases b with
      | true =>
        obtain ⟨r,r1,r2⟩:=last a1 s1 (by omega) (by omega);exact ⟨r,r1,Ev.bind h5 (Ev.bind hs (ev_pos rfl (Ev.bind H.doors_ev (ev_pos hg (ev_bind0 e1 r2)))))⟩
      | false =>
        obtain ⟨v,a2,s2,e2,v0,v1,p3,p4⟩:=pick_ev hU s1 ((gates nn L).length : Int) (show 0 ≤ a1 by omega) (by omega);have hv : v < ((gates nn L).length : Int):=by omega
        have hl : (rd_L2 (gates nn L) v).length = 2:=by
          unfold rd_L2;rw [List.getD_eq_getElem?_getD,List.getElem?_eq_getElem (show v.toNat < (gates nn L).length by omega)];exact H.gate_len (List.getElem_mem _)
        exact ⟨((nn : Int),L,rd (rd_L2 (gates nn L) v) 0,rd (rd_L2 (gates nn L) v) 1),h1,Ev.bind h5 (Ev.bind hs (ev_pos rfl (Ev.bind H.doors_ev (ev_pos hg (ev_bind0 e1 (Ev.step (fun f=>spec_DrawSquareWalk.j0.eq_2 ..) (ev_pos rfl (ev_bind0 e2 (ev_pos v0 (ev_pos hv (ev_pos (show 0 < ((rd_L2 (gates nn L) v).length : Int) by omega) (ev_pos (show 1 < ((rd_L2 (gates nn L) v).length : Int) by omega) (Ev.now _)))))))))))))⟩
    · obtain ⟨r,r1,r2⟩:=last a s h3 (by omega)
      exact ⟨r,r1,Ev.bind h5 (Ev.bind hs (ev_pos rfl (Ev.bind H.doors_ev (ev_neg hg r2))))⟩
end Go.Proofs.Ytlolkkfpfjlhmaa.QFnOppositeEdgesFound
/-! Squares: the walks of the program's and of the reference's are the walk of the house. -/
namespace Go.Proofs.Ytlolkkfpfjlhmaa.QFnOppositeEdgesFound
open Go.RowKit Go.Proofs.Ytlolkkfpfjlhmaa.PFnOppositeEdgesFound Go.Proofs.YtlolkkfpfjlhmaaW.PrintWords Go.Proofs.YtlolkkfpfjlhmaaW.PrintLast Go.Proofs.YtlolkkfpfjlhmaaW.PrintMore
set_option linter.unusedVariables false
set_option linter.unusedSimpArgs false
set_option maxRecDepth 100000
/-! ### the third point of a cell -/
def th : List Int→Int→Int→Int
  | [],_,_=>-1
  | p :: r,i,j=>if p = i then th r i j else if p = j then th r i j else p
theorem third_loop (W : List Int) (hW : W.length ≤ 1000) (p q : Int) : ∀ d i : Nat,i + d = W.length→Ev (fun k=>impl_third.l0 k p q W (W.length : Int) (i : Int)) (th (W.drop i) p q)
  | 0,i,h=>Ev.step (fun f=>impl_third.l0.eq_2 ..) (ev_neg (by omega) (ev_eq (Ev.now _) (by rw [List.drop_eq_nil_of_le (by omega)];rfl)))
  | d + 1,i,h=>by
    have hlt : i < W.length:=by omega
    refine Ev.step (fun f=>impl_third.l0.eq_2 ..) (ev_pos (by omega) (ev_pos (by omega) (ev_pos (by omega) ?_)))
    rw [rd_at hlt,wr (by omega) (by omega),List.drop_eq_getElem_cons hlt,th]
    by_cases e : W[i] = p
    · rw [if_pos e];exact ev_pos e (third_loop W hW p q d (i + 1) (by omega))
    · rw [if_neg e]
      refine ev_neg e ?_
      by_cases e2 : W[i] = q
      · rw [if_pos e2];exact ev_pos e2 (third_loop W hW p q d (i + 1) (by omega))
      · rw [if_neg e2];exact ev_neg e2 (Ev.now _)
theorem third_ev (W : List Int) (hW : W.length ≤ 1000) (p q : Int) : Ev (fun k=>impl_third.f k W p q) (th W p q):=by
  have:=third_loop W hW p q W.length 0 (by omega);rw [List.drop_zero] at this;exact this
theorem mn_lt {a b : Int} (h : a < b) : mn a b = a∧mx a b = b:=by unfold mn mx;exact ⟨if_neg (by omega),if_pos h⟩
theorem mn_self (a : Int) : mn a a = a∧mx a a = a:=by unfold mn mx;simp
theorem mn_gt {a b : Int} (h : b < a) : mn a b = b∧mx a b = a:=by unfold mn mx;exact ⟨if_pos h,if_neg (by omega)⟩
/-- Two points with known lesser and greater one. -/
theorem pair_of {a b x y : Int} (hxy : x < y) (h : [mn a b,mx a b] = [x,y]) : (a = x∧b = y) ∨ (a = y∧b = x):=by
  rcases Int.lt_trichotomy a b with g|g|g
  · rw [(mn_lt g).1,(mn_lt g).2] at h;simp at h;exact .inl h
  · subst g
    rw [(mn_self a).1,(mn_self a).2] at h;simp at h;omega
  · rw [(mn_gt g).1,(mn_gt g).2] at h;simp at h;exact .inr ⟨h.2,h.1⟩
theorem srt {x y : Int} (h : x < y) : ([mn x y,mx x y] : List Int) = [x,y]∧([mn y x,mx y x] : List Int) = [x,y]:=by
  rw [(mn_lt h).1,(mn_lt h).2,(mn_gt h).1,(mn_gt h).2];exact ⟨rfl,rfl⟩
theorem tri_of {c : List Int} {m : Nat} (T : Tri c m) : ∃ x y z,c = [x,y,z]∧0 ≤ x∧x < y∧y < z∧z < (m : Int):=by
  have h1:=T.lo;have h2:=T.ab;have h3:=T.bc;have h4:=T.hi;match c,T.len with
  | [x,y,z],_=>exact ⟨x,y,z,rfl,h1,h2,h3,h4⟩
/-- The third point of a cell beside a door. -/
theorem third_spec {w : List Int} {m : Nat} (T : Tri w m) (L : List Int) {d : List Int} (hd : d ∈ edges w) {a b : Int} (h : [mn a b,mx a b] = d) :
    ∃ q,th w a b = q∧(0 ≤ q∧q < (m : Int))∧(0 ≤ a∧a < (m : Int))∧(0 ≤ b∧b < (m : Int))∧[mn q b,mx q b] ∈ edges w∧[mn a q,mx a q] ∈ edges w∧[mn q b,mx q b]≠d∧[mn a q,mx a q]≠d ∧
      (fullL L w = decide (¬ (0 < rd L a∧0 < rd L b∧0 < rd L q)))∧(dr L d = decide (rd L a + rd L b = 3)):=by
  obtain ⟨x,y,z,rfl,h0,h1,h2,h3⟩:=tri_of T;have ed : edges [x,y,z] = [[x,y],[x,z],[y,z]]:=rfl;have fl : fullL L [x,y,z] = decide (¬ (0 < rd L x∧0 < rd L y∧0 < rd L z)):=rfl;have drd : ∀ u v : Int,dr L [u,v] = decide (rd L u + rd L v = 3):=fun _ _=>rfl
  have h4 : x < z:=by omega
  rw [ed] at hd ⊢;simp only [List.mem_cons,List.not_mem_nil,or_false] at hd;rcases hd with rfl|rfl|rfl
  · rcases pair_of h1 h with ⟨rfl,rfl⟩|⟨rfl,rfl⟩
    · refine ⟨z,by simp [th,show ¬ a = b by omega,show ¬ z = a by omega,show ¬ z = b by omega,show ¬ b = a by omega],by omega,by omega,by omega,?_,?_,?_,?_,by rw [fl],by rw [drd]⟩
      · rw [(srt h2).2];simp
      · rw [(srt h4).1];simp
      · rw [(srt h2).2];simp;omega
      · rw [(srt h4).1];simp;omega
    · refine ⟨z,by simp [th,show ¬ a = b by omega,show ¬ z = a by omega,show ¬ z = b by omega,show ¬ b = a by omega],by omega,by omega,by omega,?_,?_,?_,?_,by rw [fl,decide_eq_decide];omega,by rw [drd,decide_eq_decide];omega⟩
      · rw [(srt h4).2];simp
      · rw [(srt h2).1];simp
      · rw [(srt h4).2];simp;omega
      · rw [(srt h2).1];simp;omega
  · rcases pair_of h4 h with ⟨rfl,rfl⟩|⟨rfl,rfl⟩
    · refine ⟨y,by simp [th,show ¬ y = a by omega,show ¬ y = b by omega],by omega,by omega,by omega,?_,?_,?_,?_,by rw [fl,decide_eq_decide];omega,by rw [drd]⟩
      · rw [(srt h2).1];simp
      · rw [(srt h1).1];simp
      · rw [(srt h2).1];simp;omega
      · rw [(srt h1).1];simp;omega
    · refine ⟨y,by simp [th,show ¬ y = a by omega,show ¬ y = b by omega],by omega,by omega,by omega,?_,?_,?_,?_,by rw [fl,decide_eq_decide];omega,by rw [drd,decide_eq_decide];omega⟩
      · rw [(srt h1).2];simp
      · rw [(srt h2).2];simp
      · rw [(srt h1).2];simp;omega
      · rw [(srt h2).2];simp;omega
  · rcases pair_of h2 h with ⟨rfl,rfl⟩|⟨rfl,rfl⟩
    · refine ⟨x,by simp [th,show ¬ x = a by omega,show ¬ x = b by omega],by omega,by omega,by omega,?_,?_,?_,?_,by rw [fl,decide_eq_decide];omega,by rw [drd]⟩
      · rw [(srt h4).1];simp
      · rw [(srt h1).2];simp
      · rw [(srt h4).1];simp;omega
      · rw [(srt h1).2];simp;omega
    · refine ⟨x,by simp [th,show ¬ x = a by omega,show ¬ x = b by omega],by omega,by omega,by omega,?_,?_,?_,?_,by rw [fl,decide_eq_decide];omega,by rw [drd,decide_eq_decide];omega⟩
      · rw [(srt h1).1];simp
      · rw [(srt h4).2];simp
      · rw [(srt h1).1];simp;omega
      · rw [(srt h4).2];simp;omega
/-! ### the cell behind a door -/
theorem fb_nil {c : Int} : ∀ W : List Int,(W.filter fun x=>!(x == c)).length = 0→fb W c = -1
  | [],_=>rfl
  | p :: r,h=>by
    rw [List.filter_cons] at h
    by_cases e : p = c
    · rw [fb,if_pos e]
      rw [show (!(p == c)) = false by rw [e];simp] at h
      exact fb_nil r (by simpa using h)
    · rw [show (!(p == c)) = true by simp [e]] at h
      simp at h
theorem fb_cons {c : Int} : ∀ W : List Int,(W.filter fun x=>!(x == c)).length≠0→rd (W.filter fun x=>!(x == c)) 0 = fb W c
  | [],h=>absurd rfl h
  | p :: r,h=>by
    rw [List.filter_cons] at h ⊢
    by_cases e : p = c
    · rw [fb,if_pos e]
      rw [show (!(p == c)) = false by rw [e];simp] at h ⊢
      exact fb_cons r (by simpa using h)
    · rw [fb,if_neg e,show (!(p == c)) = true by simp [e]]
      rfl
theorem fb_mem {c : Int} : ∀ W : List Int,fb W c = -1 ∨ fb W c ∈ W
  | []=>.inl rfl
  | p :: r=>by
    rw [fb]
    by_cases e : p = c
    · rw [if_pos e]
      rcases fb_mem r with h|h
      · exact .inl h
      · exact .inr (List.mem_cons_of_mem _ h)
    · rw [if_neg e];exact .inr List.mem_cons_self
theorem wth_inner (C : List (List Int)) (a b : Int) : wth C (mn a b) (mx a b) = withFn C a b C.length 0:=by
  rcases Int.lt_trichotomy a b with g|g|g
  · rw [(mn_lt g).1,(mn_lt g).2];rfl
  · subst g
    rw [(mn_self a).1,(mn_self a).2];rfl
  · rw [(mn_gt g).1,(mn_gt g).2];exact withFn_swap C b a _ _
/-! ### walks -/
def at_ (n : Nat) (L : List Int) (c0 : Int) (d0 : List Int) (i : Nat) : Int × List Int:=Path.sq (beyAt n) (othAt n L) c0 d0 i
def vis (n : Nat) (L : List Int) (c0 : Int) (d0 : List Int) (k : Nat) : List Int:=(List.range k).map fun i=>(at_ n L c0 d0 i).1
/-- The room before. -/
def prv (n : Nat) (L : List Int) (c0 : Int) (d0 : List Int) : Nat→Int
  | 0=>-1
  | m + 1=>(at_ n L c0 d0 m).1
/-- The first edge of a cell whose labels add up to 0. -/
def fe (L : List Int) (w : List Int) : List Int :=
  if rd L (rd w 0) + rd L (rd w 1) = 0 then [rd w 0,rd w 1] else if rd L (rd w 0) + rd L (rd w 2) = 0 then [rd w 0,rd w 2] else if rd L (rd w 1) + rd L (rd w 2) = 0 then [rd w 1,rd w 2] else []
/-- What the reference looks for at a point of a cell. -/
def scan (L d : List Int) (xa : Int) : List Int→List Int→Option (List Int) × List Int
  | [],nx=>(none,nx)
  | y :: r,nx=>if rd L xa + rd L y = 0 then (some [xa,y],nx) else scan L d xa r (if dr L [xa,y] = true∧([xa,y] : List Int)≠d then [xa,y] else nx)
section
variable {n : Nat} {L : List Int} (H : Home n L) (d0 : List Int)
theorem vis_len (c0 : Int) (k : Nat) : (vis n L c0 d0 k).length = k:=by unfold vis;rw [List.length_map,List.length_range]
theorem vis_succ (c0 : Int) (k : Nat) : vis n L c0 d0 (k + 1) = vis n L c0 d0 k ++ [(at_ n L c0 d0 k).1]:=by unfold vis;rw [List.range_succ,List.map_append];rfl
include H
theorem Home.ifind (a b : Int) : Ev (fun k=>impl_with.f k (cellsT n) a b) (wth (cellsT n) (mn a b) (mx a b)):=by
  rw [wth_inner];exact with_ev (cellsT n) a b (by have:=H.lenC;omega) H.three
theorem Home.wth_len (x y : Int) : (wth (cellsT n) x y).length ≤ 128:=by
  have:=withFn_len (cellsT n) x y (cellsT n).length 0;have:=H.lenC;unfold wth;omega
omit H in
theorem Home.wth_ok (_ : Home n L) {x y v : Int} (h : v ∈ wth (cellsT n) x y) : 0 ≤ v:=by
  have:=withFn_lt (cellsT n) x y _ _ v h;omega
/-- A round of the program's walk, whose next cell is none. -/
theorem Home.iout {last a b : Int} {out : List Int} {d : List Int} (hd : [mn a b,mx a b] = d) (hw : 0 < (wth (cellsT n) (rd d 0) (rd d 1)).length) (hc : beyAt n last d < 0) : Ev (fun k=>impl_squareWalk.l0 k L (cellsT n) out last a b) (out,-1):=by
  subst hd;have hl:=H.wth_len (mn a b) (mx a b);refine Ev.step (fun f=>impl_squareWalk.l0.eq_2 ..) (Ev.bind (H.ifind a b) (ev_pos ⟨hw,Nat.le_trans hl (by decide)⟩ (ev_pos ?_ (Ev.now _))));refine Decidable.byContradiction fun hne=>?_
  have e:=fb_cons (wth (cellsT n) (mn a b) (mx a b)) hne;have e2 : fb (wth (cellsT n) (mn a b) (mx a b)) last = beyAt n last [mn a b,mx a b]:=rfl;rcases fb_mem (c:=last) (wth (cellsT n) (mn a b) (mx a b)) with g|g
  · generalize hF : ((wth (cellsT n) (mn a b) (mx a b)).filter fun x=>!(x == last)) = F at *
    match F,hne with
    | x :: r,_ =>
      have hx : x ∈ (wth (cellsT n) (mn a b) (mx a b)).filter fun x=>!(x == last):=by rw [hF];exact List.mem_cons_self
      have:=H.wth_ok (List.mem_filter.1 hx).1;have e3 : rd (x :: r) 0 = x:=rfl;omega
  · have:=H.wth_ok g
    omega
/-- A round of the program's walk, up to the third point of the next cell. -/
theorem Home.iin {last a b : Int} {out : List Int} {d : List Int} (hd : [mn a b,mx a b] = d) (hw : 0 < (wth (cellsT n) (rd d 0) (rd d 1)).length) {c : Int} (hc : beyAt n last d = c) (hin : Path.inC (cnr n) c) (hdc : d ∈ edges (cl n c)) (ho : out.length ≤ 1000) {r : List Int × Int}
    (hr : ∀ q,th (cl n c) a b = q→Ev (fun k=>if rd L q = rd L a then impl_squareWalk.l0 k L (cellsT n) (out ++ [c]) c q b else if rd L q = rd L b then impl_squareWalk.l0 k L (cellsT n) (out ++ [c]) c a q else some (out ++ [c],c)) r) : Ev (fun k=>impl_squareWalk.l0 k L (cellsT n) out last a b) r:=by
  subst hd;have hl:=H.wth_len (mn a b) (mx a b);have rg:=H.range hin;have T:=H.tri hin;obtain ⟨q,h1,h2,h3,h4,_⟩:=third_spec T L hdc rfl;have hll:=H.lbl.len;have e2 : fb (wth (cellsT n) (mn a b) (mx a b)) last = c:=hc
  have hne : ((wth (cellsT n) (mn a b) (mx a b)).filter fun x=>!(x == last)).length≠0:=fun e=>by
    have:=fb_nil _ e;omega
  have e3:=fb_cons _ hne;rw [e2] at e3;refine Ev.step (fun f=>impl_squareWalk.l0.eq_2 ..) (Ev.bind (H.ifind a b) (ev_pos ⟨hw,Nat.le_trans hl (by decide)⟩ (ev_neg hne ?_)));rw [e3];have ec : rd_L2 (cellsT n) c = cl n c:=rfl;rw [ec];refine ev_pos ⟨rg.1,rg.2,by omega⟩ (Ev.bind (third_ev (cl n c) (by rw [T.len];decide) a b) ?_);rw [h1];exact ev_pos (by omega) (hr q h1)
/-- Doors of a room that is not full: the third point leads on. -/
theorem Home.inext {c : Int} (hin : Path.inC (cnr n) c) {d : List Int} (hd : doorAt n L c d) {a b : Int} (h : [mn a b,mx a b] = d) (hf : fullAt n L c = false) :
    ∃ q,th (cl n c) a b = q∧((rd L q = rd L a∧[mn q b,mx q b] = othAt n L c d) ∨ (rd L q≠rd L a∧rd L q = rd L b∧[mn a q,mx a q] = othAt n L c d)):=by
  obtain ⟨he,hdr⟩:=List.mem_filter.1 (show d ∈ doorsL L (cl n c) from hd);obtain ⟨q,h1,h2,h3,h4,h5,h6,h7,h8,h9,h10⟩:=third_spec (H.tri hin) L he h;obtain ⟨o1,o2,o3⟩:=H.house.other c d hin hf hd;have hfl : fullL L (cl n c) = false:=hf;rw [h9] at hfl;have pos:=Decidable.not_not.1 (of_decide_eq_false hfl);rw [h10] at hdr;have hs:=of_decide_eq_true hdr;have r1:=H.lbl.ok a h3.1 h3.2;have r2:=H.lbl.ok b h4.1 h4.2;have r3:=H.lbl.ok q h2.1 h2.2;refine ⟨q,h1,?_⟩
  have door : ∀ u v : Int,[mn u v,mx u v] ∈ edges (cl n c)→rd L u + rd L v = 3→[mn u v,mx u v]≠d→[mn u v,mx u v] = othAt n L c d:=fun u v hm hsum hne=>by
    have hdoor : doorAt n L c [mn u v,mx u v]:=List.mem_filter.2 ⟨hm,by
      have:=dr_inner L [u,v];have e1 : inner [u,v] = [mn u v,mx u v]:=rfl;rw [e1] at this;rw [this];exact decide_eq_true hsum⟩
    rcases o3 _ hdoor with e|e
    · exact absurd e hne
    · exact e
  by_cases g : rd L q = rd L a
  · exact .inl ⟨g,door q b h5 (by omega) h7⟩
  · exact .inr ⟨g,by omega,door a q h6 (by omega) h8⟩
/-- A door of a full room: the third point's label is that of neither end. -/
theorem Home.istop {c : Int} (hin : Path.inC (cnr n) c) {d : List Int} (hd : doorAt n L c d) {a b : Int} (h : [mn a b,mx a b] = d) (hf : fullAt n L c = true) :
    ∃ q,th (cl n c) a b = q∧rd L q≠rd L a∧rd L q≠rd L b:=by
  obtain ⟨he,hdr⟩:=List.mem_filter.1 (show d ∈ doorsL L (cl n c) from hd);obtain ⟨q,h1,h2,h3,h4,h5,h6,h7,h8,h9,h10⟩:=third_spec (H.tri hin) L he h;have hfl : fullL L (cl n c) = true:=hf;rw [h9] at hfl;have neg:=of_decide_eq_true hfl;rw [h10] at hdr;have hs:=of_decide_eq_true hdr;have r1:=H.lbl.ok a h3.1 h3.2;have r2:=H.lbl.ok b h4.1 h4.2;have r3:=H.lbl.ok q h2.1 h2.2;exact ⟨q,h1,by omega,by omega⟩
/-! the reference's walk -/
theorem Home.l2_ev {d : List Int} (hd : d.length = 2) (C : List (List Int)) (c : Int) (out w : List Int) (xa xi : Int) (hxa : 0 ≤ xa∧xa < (pts n : Int)) (R : List Int) (hR : R.length ≤ 100) (hp : ∀ y ∈ R,0 ≤ y∧y < (pts n : Int)) (r : List Int × List Int) : ∀ (q i : Nat) (nx : List Int),i + q = R.length →
    (∀ e,(scan L d xa (R.drop i) nx).1 = some e→r = (out,e))→((scan L d xa (R.drop i) nx).1 = none→Ev (fun k=>spec_opWalk.l1 k L d C c out (scan L d xa (R.drop i) nx).2 w (w.length : Int) (wrap64 (xi + 1))) r) →
    Ev (fun k=>spec_opWalk.l2 k L d C c out nx xa w (w.length : Int) xi R (R.length : Int) (i : Int)) r
  | 0,i,nx,h,h1,h2=>by
    rw [List.drop_eq_nil_of_le (by omega)] at h2
    exact Ev.step (fun f=>spec_opWalk.l2.eq_2 ..) (ev_neg (by omega) (h2 rfl))
  | q + 1,i,nx,h,h1,h2=>by
    have hlt : i < R.length:=by omega
    have hy:=hp _ (List.getElem_mem hlt)
    have r1:=H.lbl.ok xa hxa.1 hxa.2
    have r2:=H.lbl.ok R[i] hy.1 hy.2
    have hll:=H.lbl.len
    rw [List.drop_eq_getElem_cons hlt,scan] at h1 h2
    refine Ev.step (fun f=>spec_opWalk.l2.eq_2 ..) (ev_pos (by omega) (ev_pos (by omega) (ev_pos (by omega) ?_)))
    rw [rd_at hlt,wr (x:=rd L xa + rd L R[i]) (by omega) (by omega),wr (x:=(i : Int) + 1) (by omega) (by omega)]
    refine ev_pos hxa.1 (ev_pos (by omega) (ev_pos hy.1 (ev_pos (by omega) ?_)))
    by_cases hz : rd L xa + rd L R[i] = 0
    · rw [if_pos hz] at h1
      exact ev_pos hz (ev_eq (Ev.now _) (h1 _ rfl).symm)
    · rw [if_neg hz] at h1 h2
      refine ev_neg hz (ev_bind0 (H.op_door hxa hy) ?_)
      by_cases hdr : dr L [xa,R[i]] = true
      · refine ev_pos hdr (Ev.bind (same_ev [xa,R[i]] d (by show 2 ≤ 1000000;decide)) ?_)
        by_cases he : ([xa,R[i]] : List Int) = d
        · rw [if_neg (fun z=>z.2 he)] at h1 h2
          exact ev_pos (decide_eq_true he) (Home.l2_ev hd C c out w xa xi hxa R hR hp r q (i + 1) nx (by omega) h1 h2)
        · rw [if_pos ⟨hdr,he⟩] at h1 h2
          exact ev_neg (by rw [decide_eq_false he];decide) (Home.l2_ev hd C c out w xa xi hxa R hR hp r q (i + 1) _ (by omega) h1 h2)
      · rw [if_neg (fun z=>hdr z.1)] at h1 h2
        exact ev_neg hdr (Home.l2_ev hd C c out w xa xi hxa R hR hp r q (i + 1) nx (by omega) h1 h2)
omit H in
/-- What the reference finds in a cell. -/
theorem scan_all (L d : List Int) (x y z : Int) :
    (rd L x + rd L y = 0→(scan L d x [y,z] []).1 = some [x,y]) ∧
    (rd L x + rd L y≠0→rd L x + rd L z = 0→(scan L d x [y,z] []).1 = some [x,z]) ∧
    (rd L x + rd L y≠0→rd L x + rd L z≠0→(scan L d x [y,z] []).1 = none) ∧
    (rd L y + rd L z = 0→∀ nx,(scan L d y [z] nx).1 = some [y,z])∧(rd L y + rd L z≠0→∀ nx,(scan L d y [z] nx).1 = none)∧(∀ nx,scan L d z [] nx = (none,nx)):=by
  refine ⟨fun h=>?_,fun h h2=>?_,fun h h2=>?_,fun h nx=>?_,fun h nx=>?_,fun nx=>rfl⟩
  · rw [scan,if_pos h]
  · rw [scan,if_neg h,scan,if_pos h2]
  · rw [scan,if_neg h,scan,if_neg h2];rfl
  · rw [scan,if_pos h]
  · rw [scan,if_neg h];rfl
omit H in
theorem scan_two (L d : List Int) (x y z : Int) (h : rd L x + rd L y≠0) (h2 : rd L x + rd L z≠0) : (scan L d x [y,z] []).2 = if dr L [x,z] = true∧([x,z] : List Int)≠d then [x,z] else if dr L [x,y] = true∧([x,y] : List Int)≠d then [x,y] else []:=by
  rw [scan,if_neg h,scan,if_neg h2];rfl
omit H in
theorem scan_one (L d : List Int) (y z : Int) (h : rd L y + rd L z≠0) (nx : List Int) : (scan L d y [z] nx).2 = if dr L [y,z] = true∧([y,z] : List Int)≠d then [y,z] else nx:=by
  rw [scan,if_neg h];rfl
/-- What the reference does in a cell: it stops at an opposite edge, or goes on. -/
theorem Home.sround {c : Int} (hin : Path.inC (cnr n) c) {d : List Int} (hd : d.length = 2) {out : List Int} (r : List Int × List Int)
    (hstop : fe L (cl n c)≠[]→r = (out,fe L (cl n c)))
    (hgo : fe L (cl n c) = []→∀ nx,(∃ e,e ∈ doorsL L (cl n c)∧e≠d)→nx ∈ doorsL L (cl n c)→nx≠d→Ev (fun k=>(spec_doNext.f k (cellsT n) nx c).bind fun t=>spec_opWalk.l0 k L nx (cellsT n) t out) r)
    (hex : fe L (cl n c) = []→∃ e,e ∈ doorsL L (cl n c)∧e≠d) :
    Ev (fun k=>spec_opWalk.l1 k L d (cellsT n) c out [] (cl n c) ((cl n c).length : Int) 0) r:=by
  obtain ⟨x,y,z,hcl,h0,h1,h2,h3⟩:=tri_of (H.tri hin);have rg:=H.range hin;have ec : rd_L2 (cellsT n) c = cl n c:=rfl;have hfe : fe L (cl n c) = if rd L x + rd L y = 0 then [x,y] else if rd L x + rd L z = 0 then [x,z] else if rd L y + rd L z = 0 then [y,z] else []:=by rw [hcl];rfl
  have hds : doorsL L (cl n c) = [[x,y],[x,z],[y,z]].filter (dr L):=by rw [hcl];rfl
  obtain ⟨s1,s2,s3,s4,s5,s6⟩:=scan_all L d x y z;have w01 : wrap64 (0 + 1) = 1:=wr (by omega) (by omega);have w12 : wrap64 (1 + 1) = 2:=wr (by omega) (by omega);have w23 : wrap64 (2 + 1) = 3:=wr (by omega) (by omega);have e0 : rd [x,y,z] 0 = x:=rfl;have e1 : rd [x,y,z] 1 = y:=rfl;have e2 : rd [x,y,z] 2 = z:=rfl
  -- one point
  have one : ∀ (t : Nat) (nx : List Int) (xa : Int) (R : List Int),rd [x,y,z] (t : Int) = xa→(0 ≤ xa∧xa < (pts n : Int))→[x,y,z].drop (t + 1) = R→t < 3→(∀ v ∈ R,0 ≤ v∧v < (pts n : Int))→R.length ≤ 2 →
      (∀ e,(scan L d xa R nx).1 = some e→r = (out,e))→((scan L d xa R nx).1 = none→Ev (fun k=>spec_opWalk.l1 k L d (cellsT n) c out (scan L d xa R nx).2 (cl n c) ((cl n c).length : Int) ((t + 1 : Nat) : Int)) r) →
      Ev (fun k=>spec_opWalk.l1 k L d (cellsT n) c out nx (cl n c) ((cl n c).length : Int) (t : Int)) r:=fun t nx xa R hxa hra hRd ht hp hR2 g1 g2=>by
    have hlen : ((cl n c).length : Int) = 3:=by rw [hcl];rfl
    refine Ev.step (fun f=>spec_opWalk.l1.eq_2 ..) (ev_pos (by omega) (ev_pos (by omega) (ev_pos (by omega) (ev_pos rg.1 (ev_pos rg.2 ?_)))));rw [ec,wr (x:=(t : Int) + 1) (by omega) (by omega)];refine ev_pos (by omega) (ev_pos (by omega) (ev_bind0 rfl ?_))
    have hdrop : (cl n c).drop ((t : Int) + 1).toNat = R:=by
      rw [show ((t : Int) + 1).toNat = t + 1 by omega,hcl];exact hRd
    rw [hdrop];have hxa2 : rd (cl n c) (t : Int) = xa:=by rw [hcl];exact hxa
    rw [hxa2];have:=H.l2_ev hd (cellsT n) c out (cl n c) xa (t : Int) hra R (by omega) hp r R.length 0 nx (by omega);rw [List.drop_zero] at this;refine this g1 (fun hn=>?_);rw [wr (x:=(t : Int) + 1) (by omega) (by omega)];exact g2 hn
  have fin : ∀ nx,Ev (fun k=>(spec_doNext.f k (cellsT n) nx c).bind fun t=>spec_opWalk.l0 k L nx (cellsT n) t out) r→Ev (fun k=>spec_opWalk.l1 k L d (cellsT n) c out nx (cl n c) ((cl n c).length : Int) ((3 : Nat) : Int)) r:=fun nx hr=>by
    have hlen : ((cl n c).length : Int) = 3:=by rw [hcl];rfl
    exact Ev.step (fun f=>spec_opWalk.l1.eq_2 ..) (ev_neg (by omega) hr)
  refine one 0 [] x [y,z] rfl (by omega) rfl (by omega) (fun v hv=>by simp at hv;omega) (by simp) (fun e he=>?_) (fun hn=>?_)
  · by_cases g1 : rd L x + rd L y = 0
    · rw [s1 g1] at he
      rw [if_pos g1] at hfe;rw [hfe] at hstop;rw [← Option.some.inj he];exact hstop (by simp)
    · by_cases g2 : rd L x + rd L z = 0
      · rw [s2 g1 g2] at he
        rw [if_neg g1,if_pos g2] at hfe;rw [hfe] at hstop;rw [← Option.some.inj he];exact hstop (by simp)
      · rw [s3 g1 g2] at he;cases he
  · by_cases g1 : rd L x + rd L y = 0
    · rw [s1 g1] at hn;cases hn
    · by_cases g2 : rd L x + rd L z = 0
      · rw [s2 g1 g2] at hn;cases hn
      · rw [if_neg g1,if_neg g2] at hfe
        refine one 1 _ y [z] rfl (by omega) rfl (by omega) (fun v hv=>by simp at hv;omega) (by simp) (fun e he=>?_) (fun hn2=>?_)
        · by_cases g3 : rd L y + rd L z = 0
          · rw [s4 g3] at he
            rw [if_pos g3] at hfe;rw [hfe] at hstop;rw [← Option.some.inj he];exact hstop (by simp)
          · rw [s5 g3] at he;cases he
        · by_cases g3 : rd L y + rd L z = 0
          · rw [s4 g3] at hn2;cases hn2
          · rw [if_neg g3] at hfe
            refine one 2 _ z [] rfl (by omega) rfl (by omega) (fun v hv=>by cases hv) (by simp) (fun e he=>by rw [s6] at he;cases he) (fun _=>?_);rw [s6];refine fin _ ?_;have hex':=hex hfe;refine hgo hfe _ hex' ?_ ?_
            all_goals
              rw [scan_one L d y z g3,scan_two L d x y z g1 g2];obtain ⟨e,he,hne⟩:=hex';rw [hds] at he;obtain ⟨hm,hdr⟩:=List.mem_filter.1 he;simp only [List.mem_cons,List.not_mem_nil,or_false] at hm;by_cases q1 : dr L [y,z] = true∧([y,z] : List Int)≠d
              · rw [if_pos q1]
                first
                | exact q1.2
                | (rw [hds];exact List.mem_filter.2 ⟨by simp,q1.1⟩)
              · rw [if_neg q1]
                by_cases q2 : dr L [x,z] = true∧([x,z] : List Int)≠d
                · rw [if_pos q2]
                  first
                  | exact q2.2
                  | (rw [hds];exact List.mem_filter.2 ⟨by simp,q2.1⟩)
                · rw [if_neg q2]
                  by_cases q3 : dr L [x,y] = true∧([x,y] : List Int)≠d
                  · rw [if_pos q3]
                    first
                    | exact q3.2
                    | (rw [hds];exact List.mem_filter.2 ⟨by simp,q3.1⟩)
                  · exfalso
                    rcases hm with rfl|rfl|rfl
                    · exact q3 ⟨hdr,hne⟩
                    · exact q2 ⟨hdr,hne⟩
                    · exact q1 ⟨hdr,hne⟩
end
end Go.Proofs.Ytlolkkfpfjlhmaa.QFnOppositeEdgesFound
/-! Squares: both walks in at a door of the border tell the same; the first opposite edge of a cell. -/
namespace Go.Proofs.Ytlolkkfpfjlhmaa.QFnOppositeEdgesFound
open Go.RowKit Go.Proofs.Ytlolkkfpfjlhmaa.PFnOppositeEdgesFound Go.Proofs.YtlolkkfpfjlhmaaW.PrintWords Go.Proofs.YtlolkkfpfjlhmaaW.PrintLast Go.Proofs.YtlolkkfpfjlhmaaW.PrintMore
set_option linter.unusedVariables false
set_option linter.unusedSimpArgs false
set_option maxRecDepth 100000
section
variable {n : Nat} {L : List Int} (H : Home n L)
include H
theorem Home.fe_none {c : Int} (hin : Path.inC (cnr n) c) (hf : fullAt n L c = false) : fe L (cl n c) = []:=by
  obtain ⟨x,y,z,hcl,h0,h1,h2,h3⟩:=tri_of (H.tri hin)
  have pos : 0 < rd L x∧0 < rd L y∧0 < rd L z:=by
    have : fullL L (cl n c) = false:=hf;rw [hcl] at this;exact Decidable.not_not.1 (of_decide_eq_false this)
  rw [hcl];show (if rd L x + rd L y = 0 then [x,y] else if rd L x + rd L z = 0 then [x,z] else if rd L y + rd L z = 0 then [y,z] else []) = _;rw [if_neg (by omega),if_neg (by omega),if_neg (by omega)]
theorem Home.fe_some {c : Int} (hin : Path.inC (cnr n) c) {d : List Int} (hd : doorAt n L c d) (hf : fullAt n L c = true) : fe L (cl n c)≠[]:=by
  obtain ⟨x,y,z,hcl,h0,h1,h2,h3⟩:=tri_of (H.tri hin)
  have neg : ¬ (0 < rd L x∧0 < rd L y∧0 < rd L z):=by
    have : fullL L (cl n c) = true:=hf;rw [hcl] at this;exact of_decide_eq_true this
  have r1:=H.lbl.ok x (by omega) (by omega);have r2:=H.lbl.ok y (by omega) (by omega);have r3:=H.lbl.ok z (by omega) (by omega);obtain ⟨he,hdr⟩:=List.mem_filter.1 (show d ∈ doorsL L (cl n c) from hd);rw [hcl] at he ⊢;have ed : edges [x,y,z] = [[x,y],[x,z],[y,z]]:=rfl;have drd : ∀ u v : Int,dr L [u,v] = decide (rd L u + rd L v = 3):=fun _ _=>rfl
  rw [ed] at he;show (if rd L x + rd L y = 0 then [x,y] else if rd L x + rd L z = 0 then [x,z] else if rd L y + rd L z = 0 then [y,z] else [])≠_;by_cases g1 : rd L x + rd L y = 0
  · rw [if_pos g1];simp
  · by_cases g2 : rd L x + rd L z = 0
    · rw [if_neg g1,if_pos g2];simp
    · by_cases g3 : rd L y + rd L z = 0
      · rw [if_neg g1,if_neg g2,if_pos g3];simp
      · exfalso
        simp only [List.mem_cons,List.not_mem_nil,or_false] at he;rcases he with rfl|rfl|rfl <;> (rw [drd] at hdr;have:=of_decide_eq_true hdr;omega)
theorem Home.first_ev {c : Int} (hin : Path.inC (cnr n) c) : Ev (fun k=>impl_firstEdge.f k L (cl n c)) (fe L (cl n c)):=by
  obtain ⟨x,y,z,hcl,h0,h1,h2,h3⟩:=tri_of (H.tri hin);have r1:=H.lbl.ok x (by omega) (by omega);have r2:=H.lbl.ok y (by omega) (by omega);have r3:=H.lbl.ok z (by omega) (by omega);have hll:=H.lbl.len;rw [hcl];have w01 : wrap64 (0 + 1) = 1:=wr (by omega) (by omega);have w12 : wrap64 (1 + 1) = 2:=wr (by omega) (by omega);have w23 : wrap64 (2 + 1) = 3:=wr (by omega) (by omega)
  have one : ∀ (t : Nat) (u v : Int) (r : List Int),t < 3→rd_L2 [[x,y],[x,z],[y,z]] (t : Int) = [u,v]→(0 ≤ u∧u < (pts n : Int))→(0 ≤ v∧v < (pts n : Int)) →
      (rd L u + rd L v = 0→r = [u,v])→(rd L u + rd L v≠0→Ev (fun k=>impl_firstEdge.l0 k L [[x,y],[x,z],[y,z]] 3 ((t + 1 : Nat) : Int)) r)→Ev (fun k=>impl_firstEdge.l0 k L [[x,y],[x,z],[y,z]] 3 (t : Int)) r:=fun t u v r ht e hu hv g1 g2=>by
    have q1:=H.lbl.ok u hu.1 hu.2;have q2:=H.lbl.ok v hv.1 hv.2;have e0 : rd [u,v] 0 = u:=rfl;have e1 : rd [u,v] 1 = v:=rfl;refine Ev.step (fun f=>impl_firstEdge.l0.eq_2 ..) (ev_pos (by omega) (ev_pos (by omega) (ev_pos (by simp;omega) ?_)));rw [e,e0,e1,wr (x:=rd L u + rd L v) (by omega) (by omega),wr (x:=(t : Int) + 1) (by omega) (by omega)];refine ev_pos (by simp) (ev_pos hu.1 (ev_pos (by omega) (ev_pos (by simp) (ev_pos hv.1 (ev_pos (by omega) ?_)))));by_cases hz : rd L u + rd L v = 0
    · exact ev_pos hz (ev_eq (Ev.now _) (g1 hz).symm)
    · exact ev_neg hz (g2 hz)
  refine ev_pos (by simp) (ev_pos (by simp) (ev_pos (by simp) (ev_bind0 rfl ?_)));show Ev (fun k=>impl_firstEdge.l0 k L [[x,y],[x,z],[y,z]] 3 0) (if rd L x + rd L y = 0 then [x,y] else if rd L x + rd L z = 0 then [x,z] else if rd L y + rd L z = 0 then [y,z] else []);refine one 0 x y _ (by omega) rfl (by omega) (by omega) (fun g=>by rw [if_pos g]) (fun g=>?_);rw [if_neg g];refine one 1 x z _ (by omega) rfl (by omega) (by omega) (fun g=>by rw [if_pos g]) (fun g=>?_);rw [if_neg g];refine one 2 y z _ (by omega) rfl (by omega) (by omega) (fun g=>by rw [if_pos g]) (fun g=>?_);rw [if_neg g];exact Ev.step (fun f=>impl_firstEdge.l0.eq_2 ..) (ev_neg (by omega) (Ev.now _))
/-- Both walks in at a door of the border, with all rooms on the way. -/
theorem Home.enterW {s : List Int} (hs : s ∈ gates n L) {p q : Int} (hpq : [mn p q,mx p q] = inner s) : ∃ K : Nat,K ≤ cnr n∧(∀ i,i < K→Path.inC (cnr n) (at_ n L (beyAt n (-1) (inner s)) (inner s) i).1∧fullAt n L (at_ n L (beyAt n (-1) (inner s)) (inner s) i).1 = false) ∧
    (((at_ n L (beyAt n (-1) (inner s)) (inner s) K).1 < 0∧Ev (fun k=>impl_squareWalk.f k L (cellsT n) p q) (vis n L (beyAt n (-1) (inner s)) (inner s) K,-1)∧Ev (fun k=>spec_opWalk.f k (n : Int) L (inner s)) (vis n L (beyAt n (-1) (inner s)) (inner s) K,[])) ∨
      (Path.inC (cnr n) (at_ n L (beyAt n (-1) (inner s)) (inner s) K).1∧fullAt n L (at_ n L (beyAt n (-1) (inner s)) (inner s) K).1 = true∧fe L (cl n (at_ n L (beyAt n (-1) (inner s)) (inner s) K).1)≠[] ∧
        Ev (fun k=>impl_squareWalk.f k L (cellsT n) p q) (vis n L (beyAt n (-1) (inner s)) (inner s) K ++ [(at_ n L (beyAt n (-1) (inner s)) (inner s) K).1],(at_ n L (beyAt n (-1) (inner s)) (inner s) K).1) ∧
        Ev (fun k=>spec_opWalk.f k (n : Int) L (inner s)) (vis n L (beyAt n (-1) (inner s)) (inner s) K ++ [(at_ n L (beyAt n (-1) (inner s)) (inner s) K).1],fe L (cl n (at_ n L (beyAt n (-1) (inner s)) (inner s) K).1)))):=by
  obtain ⟨hw0,h0,hb⟩:=H.begin hs;have hin2 : (inner s).length = 2:=rfl;generalize hd0 : inner s = d0 at *;obtain ⟨K,hK,hw,he⟩:=Path.ends H.house hb;have hcn:=H.side.cnr_le
  -- the rooms on the way
  have room : ∀ m,m < K→Path.inC (cnr n) (at_ n L (beyAt n (-1) d0) d0 m).1∧doorAt n L (at_ n L (beyAt n (-1) d0) d0 m).1 (at_ n L (beyAt n (-1) d0) d0 m).2:=fun m hm =>
    (Path.alive H.house hb m (fun t ht=>(hw t (by omega)).1) (fun t ht=>(hw t (by omega)).2)).1 m (Nat.le_refl _)
  have atb : ∀ m,beyAt n (prv n L (beyAt n (-1) d0) d0 m) (at_ n L (beyAt n (-1) d0) d0 m).2 = (at_ n L (beyAt n (-1) d0) d0 m).1:=fun m=>by cases m <;> rfl
  have wne : ∀ m,m ≤ K→0 < (wth (cellsT n) (rd (at_ n L (beyAt n (-1) d0) d0 m).2 0) (rd (at_ n L (beyAt n (-1) d0) d0 m).2 1)).length:=fun m hm=>by
    cases m with
    | zero=>exact hw0
    | succ t =>
      obtain ⟨g1,g2⟩:=room t (by omega);exact H.wne g1 (H.house.other _ _ g1 (hw t (by omega)).2 g2).1
  have vl : ∀ m,(vis n L (beyAt n (-1) d0) d0 m).length = m:=fun m=>vis_len d0 (beyAt n (-1) d0) m
  have iw : ∀ (R : List Int × Int),(∀ a b,[mn a b,mx a b] = (at_ n L (beyAt n (-1) d0) d0 K).2→Ev (fun k=>impl_squareWalk.l0 k L (cellsT n) (vis n L (beyAt n (-1) d0) d0 K) (prv n L (beyAt n (-1) d0) d0 K) a b) R) →
      ∀ j m,m + j = K→∀ a b,[mn a b,mx a b] = (at_ n L (beyAt n (-1) d0) d0 m).2→Ev (fun k=>impl_squareWalk.l0 k L (cellsT n) (vis n L (beyAt n (-1) d0) d0 m) (prv n L (beyAt n (-1) d0) d0 m) a b) R:=fun R hR j=>by
    induction j with
    | zero=>intro m hm;have : m = K:=hm;subst this;exact hR
    | succ j ih =>
      intro m hm a b hab;obtain ⟨g1,g2⟩:=room m (by omega);have g3:=(hw m (by omega)).2;refine H.iin hab (wne m (by omega)) (atb m) g1 (List.mem_filter.1 (show _ ∈ doorsL L (cl n _) from g2)).1 (by rw [vl];omega) (fun q' hq'=>?_);obtain ⟨q'',e1,hh⟩:=H.inext g1 g2 hab g3;obtain rfl : q' = q'':=hq'.symm.trans e1;have i1:=ih (m + 1) (by omega);rw [vis_succ] at i1;rcases hh with ⟨f1,f2⟩|⟨f1,f2,f3⟩
      · exact ev_pos f1 (i1 q' b f2)
      · exact ev_neg f1 (ev_pos f2 (i1 a q' f3))
  have sw : ∀ (R : List Int × List Int),Ev (fun k=>spec_opWalk.l0 k L (at_ n L (beyAt n (-1) d0) d0 K).2 (cellsT n) (at_ n L (beyAt n (-1) d0) d0 K).1 (vis n L (beyAt n (-1) d0) d0 K)) R →
      ∀ j m,m + j = K→Ev (fun k=>spec_opWalk.l0 k L (at_ n L (beyAt n (-1) d0) d0 m).2 (cellsT n) (at_ n L (beyAt n (-1) d0) d0 m).1 (vis n L (beyAt n (-1) d0) d0 m)) R:=fun R hR j=>by
    induction j with
    | zero=>intro m hm;have : m = K:=hm;subst this;exact hR
    | succ j ih =>
      intro m hm;obtain ⟨g1,g2⟩:=room m (by omega);obtain ⟨g3,g4⟩:=hw m (by omega);have rg:=H.range g1;obtain ⟨o1,o2,o3⟩:=H.house.other _ _ g1 g4 g2;have i1:=ih (m + 1) (by omega);rw [vis_succ] at i1;have fn:=H.fe_none g1 g4;have hvl:=vl m;refine Ev.step (fun f=>spec_opWalk.l0.eq_2 ..) (ev_pos g3 (ev_pos (by omega) (ev_pos g3 (ev_pos rg.2 ?_))));refine H.sround g1 (H.two g1 g2) R (fun z=>absurd fn z) (fun _ nx _ hn1 hn2=>?_) (fun _=>⟨_,o1,o2⟩);have : nx = othAt n L (at_ n L (beyAt n (-1) d0) d0 m).1 (at_ n L (beyAt n (-1) d0) d0 m).2:=(o3 nx hn1).resolve_left hn2;subst this;exact Ev.bind (doNext_ev H.lenC H.three _ (H.two g1 o1)) i1
  have lift : ∀ R,Ev (fun k=>spec_opWalk.l0 k L d0 (cellsT n) (beyAt n (-1) d0) []) R→Ev (fun k=>spec_opWalk.f k (n : Int) L d0) R:=fun R hR =>
    Ev.bind H.side.cellsS (Ev.bind (doNext_ev H.lenC H.three (-1) hin2) hR)
  rcases he with he|⟨he,hf⟩
  · refine ⟨K,hK,fun i hi=>⟨(room i hi).1,(hw i hi).2⟩,.inl ⟨he,?_,lift _ ?_⟩⟩
    · exact iw _ (fun a b hab=>H.iout hab (wne K (Nat.le_refl _)) (by rw [atb];exact he)) K 0 (by omega) p q hpq
    · exact sw _ (Ev.step (fun f=>spec_opWalk.l0.eq_2 ..) (ev_neg (by unfold at_;omega) (Ev.now _))) K 0 (by omega)
  · obtain ⟨g1,g2⟩:=(Path.alive H.house hb K (fun t ht=>by
      rcases Nat.lt_or_ge t K with h|h
      · exact (hw t h).1
      · have : t = K:=by omega
        subst this;exact he) (fun t ht=>(hw t ht).2)).1 K (Nat.le_refl _)
    have rg:=H.range g1;have hvl:=vl K;refine ⟨K,hK,fun i hi=>⟨(room i hi).1,(hw i hi).2⟩,.inr ⟨g1,hf,H.fe_some g1 g2 hf,?_,lift _ ?_⟩⟩
    · refine iw _ (fun a b hab=>?_) K 0 (by omega) p q hpq
      refine H.iin hab (wne K (Nat.le_refl _)) (atb K) g1 (List.mem_filter.1 (show _ ∈ doorsL L (cl n _) from g2)).1 (by rw [vl];omega) (fun q' hq'=>?_);obtain ⟨q'',e1,f1,f2⟩:=H.istop g1 g2 hab hf;obtain rfl : q' = q'':=hq'.symm.trans e1;exact ev_neg f1 (ev_neg f2 (Ev.now _))
    · refine sw _ ?_ K 0 (by omega)
      have fs:=H.fe_some g1 g2 hf;refine Ev.step (fun f=>spec_opWalk.l0.eq_2 ..) (ev_pos he (ev_pos (by omega) (ev_pos he (ev_pos rg.2 ?_))));exact H.sround g1 (H.two g1 g2) _ (fun _=>rfl) (fun z=>absurd z fs) (fun z=>absurd z fs)
end
def isIn (G : List (List Int)) (p : List Int) : Bool:=G.any fun s=>decide (inner s = p)
theorem isIn_mem {G : List (List Int)} {p : List Int} (h : isIn G p = true) : ∃ s ∈ G,p = inner s:=by
  obtain ⟨s,hs,e⟩:=List.any_eq_true.1 h;exact ⟨s,hs,(of_decide_eq_true e).symm⟩
end Go.Proofs.Ytlolkkfpfjlhmaa.QFnOppositeEdgesFound
/-! A walk that leaves the house, gone backwards; what is paired with itself is even in number. -/
set_option linter.unusedVariables false
namespace Go.Proofs.Ytlolkkfpfjlhmaa.QFnOppositeEdgesFound.Path
/-- The room before. -/
def before (f : Nat→Int) : Nat→Int
  | 0=>-1
  | i + 1=>f i
section
variable {bey : Int→List Int→Int} {oth : Int→List Int→List Int} {full : Int→Bool} {door : Int→List Int→Prop} {N : Nat} (h : House bey oth full door N)
include h
/-- The room before a room of a walk. -/
theorem prev {c0 : Int} {d0 : List Int} (b : Begin bey full door N c0 d0) (hb : bey c0 d0 = -1) {k : Nat} (h1 : ∀ i,i ≤ k→0 ≤ (sq bey oth c0 d0 i).1∧full (sq bey oth c0 d0 i).1 = false) {j : Nat} (hj : j ≤ k) :
    oth (sq bey oth c0 d0 j).1 (sq bey oth c0 d0 (j + 1)).2 = (sq bey oth c0 d0 j).2∧bey (sq bey oth c0 d0 j).1 (sq bey oth c0 d0 j).2 = before (fun i=>(sq bey oth c0 d0 i).1) j:=by
  obtain ⟨g1,g2⟩:=alive h b k (fun i hi=>(h1 i hi).1) (fun i hi=>(h1 i (by omega)).2);obtain ⟨a1,a2⟩:=g1 j hj;obtain ⟨o1,o2,o3⟩:=h.other _ _ a1 (h1 j hj).2 a2;obtain ⟨p1,p2,p3⟩:=h.other _ _ a1 (h1 j hj).2 o1;constructor
  · rcases o3 _ p1 with e|e
    · exact e
    · exact absurd e p2
  · cases j with
    | zero=>exact hb
    | succ i =>
      obtain ⟨q1,q2⟩:=g1 i (by omega);obtain ⟨r1,_,_⟩:=h.other _ _ q1 (h1 i (by omega)).2 q2;have hp:=(h1 (i + 1) hj).1;rcases h.beyond _ _ q1 r1 with e|⟨_,_,_,e⟩
      · have e' : (sq bey oth c0 d0 (i + 1)).1 = -1:=e
        omega
      · exact e
/-- A walk gone backwards. -/
theorem back_sq {c0 : Int} {d0 : List Int} (b : Begin bey full door N c0 d0) (hb : bey c0 d0 = -1) {k : Nat} (h1 : ∀ i,i ≤ k→0 ≤ (sq bey oth c0 d0 i).1∧full (sq bey oth c0 d0 i).1 = false) :
    (∀ i,i ≤ k→sq bey oth (sq bey oth c0 d0 k).1 (sq bey oth c0 d0 (k + 1)).2 i = ((sq bey oth c0 d0 (k - i)).1,(sq bey oth c0 d0 (k - i + 1)).2))∧sq bey oth (sq bey oth c0 d0 k).1 (sq bey oth c0 d0 (k + 1)).2 (k + 1) = (-1,d0):=by
  have go : ∀ i,i ≤ k→sq bey oth (sq bey oth c0 d0 k).1 (sq bey oth c0 d0 (k + 1)).2 i = ((sq bey oth c0 d0 (k - i)).1,(sq bey oth c0 d0 (k - i + 1)).2):=fun i=>by
    induction i with
    | zero=>intro _;rfl
    | succ i ih =>
      intro hi;have e:=ih (by omega);obtain ⟨p1,p2⟩:=prev h b hb h1 (j:=k - i) (by omega);have e2 : k - i = (k - (i + 1)) + 1:=by omega
      show (bey (sq bey oth _ _ i).1 (oth (sq bey oth _ _ i).1 (sq bey oth _ _ i).2),oth (sq bey oth _ _ i).1 (sq bey oth _ _ i).2) = _;rw [e];show (bey (sq bey oth c0 d0 (k - i)).1 (oth (sq bey oth c0 d0 (k - i)).1 (sq bey oth c0 d0 (k - i + 1)).2),oth (sq bey oth c0 d0 (k - i)).1 (sq bey oth c0 d0 (k - i + 1)).2) = _;rw [p1,p2,e2];rfl
  refine ⟨go,?_⟩;have e:=go k (Nat.le_refl _);rw [Nat.sub_self] at e;obtain ⟨p1,p2⟩:=prev h b hb h1 (j:=0) (by omega);show (bey (sq bey oth _ _ k).1 (oth (sq bey oth _ _ k).1 (sq bey oth _ _ k).2),oth (sq bey oth _ _ k).1 (sq bey oth _ _ k).2) = _;rw [e];show (bey (sq bey oth c0 d0 0).1 (oth (sq bey oth c0 d0 0).1 (sq bey oth c0 d0 (0 + 1)).2),oth (sq bey oth c0 d0 0).1 (sq bey oth c0 d0 (0 + 1)).2) = _;rw [p1,p2];rfl
end
/-- What is paired with others is even in number. -/
theorem even_rel {α : Type} [DecidableEq α] (R : α→α→Prop) : ∀ (m : Nat) (l : List α),l.length ≤ m→l.Nodup→(∀ x ∈ l,∃ y ∈ l,R x y)→(∀ x y,x ∈ l→y ∈ l→R x y→R y x)→(∀ x y z,x ∈ l→y ∈ l→z ∈ l→R x y→R x z→y = z)→(∀ x ∈ l,¬ R x x)→l.length % 2 = 0
  | _,[],_,_,_,_,_,_=>rfl
  | 0,x :: r,hm,_,_,_,_,_=>by rw [List.length_cons] at hm;omega
  | m + 1,x :: r,hm,hn,h1,h2,h3,h4=>by
    obtain ⟨hx,hr⟩:=List.nodup_cons.1 hn
    have mx : x ∈ x :: r:=List.mem_cons_self
    have up : ∀ {z},z ∈ r→z ∈ x :: r:=fun hz=>List.mem_cons_of_mem _ hz
    obtain ⟨y,hy,hxy⟩:=h1 x mx
    have hy' : y ∈ r:=by
      rcases List.mem_cons.1 hy with e|e
      · rw [e] at hxy;exact absurd hxy (h4 x mx)
      · exact e
    have me : ∀ {z},z ∈ r.erase y ↔ z≠y∧z ∈ r:=fun {z}=>hr.mem_erase_iff
    have down : ∀ {z},z ∈ r.erase y→z ∈ x :: r:=fun hz=>up (me.1 hz).2
    have:=even_rel R m (r.erase y) (by rw [List.length_erase_of_mem hy'];rw [List.length_cons] at hm;omega) (hr.erase y) (fun z hz=>by
      obtain ⟨zy,zr⟩:=me.1 hz;obtain ⟨w,hw,hzw⟩:=h1 z (up zr);refine ⟨w,me.2 ⟨?_,?_⟩,hzw⟩
      · intro e
        rw [e] at hzw;have:=h3 y z x hy (up zr) mx (h2 z y (up zr) hy hzw) (h2 x y mx hy hxy);exact hx (this ▸ zr)
      · rcases List.mem_cons.1 hw with e|e
        · rw [e] at hzw
          exact absurd (h3 x y z mx hy (up zr) hxy (h2 z x (up zr) mx hzw)).symm zy
        · exact e) (fun a b ha hb=>h2 a b (down ha) (down hb)) (fun a b c ha hb hc=>h3 a b c (down ha) (down hb) (down hc)) (fun a ha=>h4 a (down ha))
    have hl:=List.length_erase_of_mem hy';have hp:=List.length_pos_of_mem hy';rw [List.length_cons];omega
/-- Doors along a path of noughts and ones. -/
theorem path_par (b : Nat→Int) : ∀ n : Nat,(∀ t,t ≤ n→b t = 0 ∨ b t = 1)→(((((List.range n).countP fun t=>decide (b t + b (t + 1) = 1)) : Nat) : Int) - b 0 - b n) % 2 = 0
  | 0,_=>by simp only [List.range_zero,List.countP_nil];omega
  | n + 1,hb=>by
    have ih:=path_par b n (fun t ht=>hb t (by omega))
    rw [List.range_succ,List.countP_append,List.countP_singleton]
    rcases hb n (by omega) with e|e <;> rcases hb (n + 1) (by omega) with e'|e' <;> rw [e,e'] <;> rw [e] at ih <;> simp <;> omega
theorem count_stay (p : Nat→Bool) (n : Nat) : ∀ d : Nat,(∀ t,n ≤ t→t < n + d→p t = false)→(List.range (n + d)).countP p = (List.range n).countP p
  | 0,_=>rfl
  | d + 1,h=>by
    rw [← Nat.add_assoc,List.range_succ,List.countP_append,List.countP_singleton,count_stay p n d (fun t h1 h2=>h t h1 (by omega)),h (n + d) (by omega) (by omega)]
    simp
end Go.Proofs.Ytlolkkfpfjlhmaa.QFnOppositeEdgesFound.Path
/-! Opposite labels of a square: doors of the border are odd in number, and a walk in at one of them ends at an opposite edge. Walks, told with all that they go through. -/
namespace Go.Proofs.Ytlolkkfpfjlhmaa.QFnOppositeEdgesFound
open Go.RowKit Go.Proofs.Ytlolkkfpfjlhmaa.PFnOppositeEdgesFound Go.Proofs.YtlolkkfpfjlhmaaW.PrintWords Go.Proofs.YtlolkkfpfjlhmaaW.PrintLast Go.Proofs.YtlolkkfpfjlhmaaW.PrintMore
set_option linter.unusedVariables false
set_option linter.unusedSimpArgs false
set_option maxRecDepth 100000
/-- The point of the border at a step. -/
def bp (n t : Nat) : Int:=rd (bordT n) (Int.ofNat (t % (bordT n).length))
theorem bp_tab : ((List.range 5).all fun n=>n == 0 || (List.range (8 * n + 1)).all fun t=>decide (0 ≤ bp n t) && decide (bp n t < (pts n : Int)) && decide (bp n (t + 4 * n) = (pts n : Int) - 1 - bp n t) && (bordT n).contains (bp n t)) = true:=by decide +kernel
theorem inner_tab : ((List.range 5).all fun n=>n == 0 || (stepsT (bordT n)).all fun a=>(stepsT (bordT n)).all fun b=>inner a != inner b || a == b) = true:=by decide +kernel
theorem steps_nodup : ((List.range 5).all fun n=>n == 0 || decide (stepsT (bordT n)).Nodup) = true:=by decide +kernel
theorem outs_tab : ((List.range 5).all fun n=>n == 0 || (List.range (cnr n)).all fun c=>(edges ((cellsT n).getD c [])).all fun d=>bey (cellsT n) (c : Int) d != -1 || ((stepsT (bordT n)).map inner).contains d) = true:=by decide +kernel
/-- One of 1 and -2, or one of 2 and -1? -/
def half (x : Int) : Int:=if x = 1 ∨ x = -2 then 1 else 0
theorem half_01 (x : Int) : half x = 0 ∨ half x = 1:=by unfold half;split <;> simp
theorem half_neg {x : Int} (h : -2 ≤ x∧x ≤ 2∧x≠0) : half (-x) = 1 - half x:=by
  have : x = 1 ∨ x = 2 ∨ x = -1 ∨ x = -2:=by omega
  rcases this with rfl|rfl|rfl|rfl <;> decide
theorem half_step {x y : Int} (hx : -2 ≤ x∧x ≤ 2∧x≠0) (hy : -2 ≤ y∧y ≤ 2∧y≠0) (h : x + y≠0) : (half x + half y = 1) ↔ (x + y = 3 ∨ -x + -y = 3):=by
  have h1 : x = 1 ∨ x = 2 ∨ x = -1 ∨ x = -2:=by omega
  have h2 : y = 1 ∨ y = 2 ∨ y = -1 ∨ y = -2:=by omega
  rcases h1 with rfl|rfl|rfl|rfl <;> rcases h2 with rfl|rfl|rfl|rfl <;> first|(exact absurd rfl h)|decide|(exfalso;revert h;decide)
/-- Are the labels of a point and of the opposite one opposite? -/
def op1 (n : Nat) (L : List Int) (x : Int) : Bool:=decide (rd L x + rd L ((pts n : Int) - 1 - x) = 0)
/-- The first step whose labels are opposite. -/
def ff (L : List Int) : List (List Int)→Option (List Int)
  | []=>none
  | s :: r=>if rd L (rd s 0) + rd L (rd s 1) = 0 then some (inner s) else ff L r
theorem ff_none {L : List Int} : ∀ {S : List (List Int)},ff L S = none→∀ s ∈ S,rd L (rd s 0) + rd L (rd s 1)≠0
  | [],_,s,hs=>by cases hs
  | a :: r,h,s,hs=>by
    rw [ff] at h
    by_cases e : rd L (rd a 0) + rd L (rd a 1) = 0
    · rw [if_pos e] at h;cases h
    · rw [if_neg e] at h
      rcases List.mem_cons.1 hs with rfl|hs
      · exact e
      · exact ff_none h s hs
theorem count_or (p q : Nat→Bool) : ∀ n : Nat,(∀ t,t < n→¬ (p t = true∧q t = true))→(List.range n).countP (fun t=>p t || q t) = (List.range n).countP p + (List.range n).countP q
  | 0,_=>rfl
  | n + 1,h=>by
    have ih:=count_or p q n (fun t ht=>h t (by omega))
    have hn:=h n (by omega)
    rw [List.range_succ,List.countP_append,List.countP_append,List.countP_append,List.countP_singleton,List.countP_singleton,List.countP_singleton,ih]
    cases hp : p n <;> cases hq : q n <;> simp [hp,hq] at hn ⊢ <;> omega
theorem count_shift (p : Nat→Bool) (m : Nat) : ∀ n : Nat,(List.range (m + n)).countP p = (List.range m).countP p + (List.range n).countP (fun t=>p (t + m))
  | 0=>by simp
  | n + 1=>by
    rw [← Nat.add_assoc,List.range_succ,List.countP_append,List.countP_singleton,count_shift p m n,List.range_succ,List.countP_append,List.countP_singleton,Nat.add_comm n m]
    omega
section
variable {n : Nat} {L : List Int} (H : Home n L)
include H
theorem Home.bpt {t : Nat} (ht : t ≤ 8 * n) : (0 ≤ bp n t∧bp n t < (pts n : Int))∧bp n (t + 4 * n) = (pts n : Int) - 1 - bp n t∧bp n t ∈ bordT n:=by
  have a:=List.all_eq_true.1 (H.side.tab bp_tab) t (List.mem_range.2 (by omega));simp only [Bool.and_eq_true,decide_eq_true_eq] at a;exact ⟨⟨a.1.1.1,a.1.1.2⟩,a.1.2,List.contains_iff_mem.1 a.2⟩
theorem Home.lenB8 : (bordT n).length = 8 * n:=H.side.geo.2.1
theorem Home.turn (hop : (bordT n).all (op1 n L) = true) {t : Nat} (ht : t ≤ 8 * n) : rd L (bp n (t + 4 * n)) = - rd L (bp n t):=by
  obtain ⟨a,b,c⟩:=H.bpt ht;have:=of_decide_eq_true (List.all_eq_true.1 hop _ c);rw [b];omega
theorem Home.near0 (hno : ff L (stepsT (bordT n)) = none) {t : Nat} (ht : t < 8 * n) : rd L (bp n t) + rd L (bp n (t + 1))≠0:=by
  have e : bp n t = rd (bordT n) (t : Int):=by unfold bp;rw [Nat.mod_eq_of_lt (by rw [H.lenB8];exact ht)];rfl
  have:=ff_none hno (QFnOppositeEdgesFound.step (bordT n) t) (by rw [stepsT_eq];exact List.mem_map_of_mem (List.mem_range.2 (by rw [H.lenB8];exact ht)));rw [e];exact this
/-- The doors of the border are odd in number. -/
theorem Home.oddGates (hop : (bordT n).all (op1 n L) = true) (hno : ff L (stepsT (bordT n)) = none) : (gates n L).length % 2 = 1:=by
  have hlo:=H.side.lo;have ok : ∀ t,t ≤ 8 * n→-2 ≤ rd L (bp n t)∧rd L (bp n t) ≤ 2∧rd L (bp n t)≠0:=fun t ht=>H.lbl.ok _ (H.bpt ht).1.1 (H.bpt ht).1.2
  have e1 : (gates n L).length = (List.range (4 * n + 4 * n)).countP fun t=>decide (rd L (bp n t) + rd L (bp n (t + 1)) = 3):=by
    unfold gates;rw [← List.countP_eq_length_filter,stepsT_eq,List.countP_map,H.lenB8,show 8 * n = 4 * n + 4 * n by omega];refine List.countP_congr fun t ht=>?_
    have ht:=List.mem_range.1 ht;have e : bp n t = rd (bordT n) (t : Int):=by unfold bp;rw [Nat.mod_eq_of_lt (by rw [H.lenB8];omega)];rfl
    rw [e];exact Iff.rfl
  have e2 : (List.range (4 * n)).countP (fun t=>decide (rd L (bp n (t + 4 * n)) + rd L (bp n (t + 4 * n + 1)) = 3)) = (List.range (4 * n)).countP (fun t=>decide (- rd L (bp n t) + - rd L (bp n (t + 1)) = 3)):=by
    refine List.countP_congr fun t ht=>?_
    have ht:=List.mem_range.1 ht;rw [H.turn hop (t:=t) (by omega),show t + 4 * n + 1 = (t + 1) + 4 * n by omega,H.turn hop (t:=t + 1) (by omega)]
  have e3:=count_or (fun t=>decide (rd L (bp n t) + rd L (bp n (t + 1)) = 3)) (fun t=>decide (- rd L (bp n t) + - rd L (bp n (t + 1)) = 3)) (4 * n) (fun t ht h=>by
    have h1:=of_decide_eq_true h.1;have h2:=of_decide_eq_true h.2;omega)
  have e4 : (List.range (4 * n)).countP (fun t=>decide (rd L (bp n t) + rd L (bp n (t + 1)) = 3) || decide (- rd L (bp n t) + - rd L (bp n (t + 1)) = 3)) = (List.range (4 * n)).countP (fun t=>decide (half (rd L (bp n t)) + half (rd L (bp n (t + 1))) = 1)):=by
    refine List.countP_congr fun t ht=>?_
    have ht:=List.mem_range.1 ht;have:=half_step (ok t (by omega)) (ok (t + 1) (by omega)) (H.near0 hno (by omega));rw [Bool.or_eq_true,decide_eq_true_eq,decide_eq_true_eq,decide_eq_true_eq];exact this.symm
  have p:=Path.path_par (fun t=>half (rd L (bp n t))) (4 * n) (fun t _=>half_01 _);have z:=H.turn hop (t:=0) (by omega);rw [Nat.zero_add] at z;have hz:=half_neg (ok 0 (by omega));rw [← z] at hz
  have p2 : ((((List.range (4 * n)).countP fun t=>decide (half (rd L (bp n t)) + half (rd L (bp n (t + 1))) = 1)) : Nat) : Int) % 2 = 1:=by
    have p3 : (((((List.range (4 * n)).countP fun t=>decide (half (rd L (bp n t)) + half (rd L (bp n (t + 1))) = 1)) : Nat) : Int) - half (rd L (bp n 0)) - half (rd L (bp n (4 * n)))) % 2 = 0:=p;omega
  rw [e1,count_shift];rw [e2,← e3,e4];omega
/-- A walk that goes out by another door. -/
def Out (n : Nat) (L : List Int) (k : Nat) (s s' : List Int) : Prop:=(∀ i,i ≤ k→0 ≤ (at_ n L (beyAt n (-1) (inner s)) (inner s) i).1∧fullAt n L (at_ n L (beyAt n (-1) (inner s)) (inner s) i).1 = false)∧(at_ n L (beyAt n (-1) (inner s)) (inner s) (k + 1)).1 < 0∧(at_ n L (beyAt n (-1) (inner s)) (inner s) (k + 1)).2 = inner s'
theorem Home.beyBack {c : Int} {d : List Int} (hc : Path.inC (cnr n) c) (hd : doorAt n L c d) (hb : beyAt n c d = -1) : beyAt n (-1) d = c:=by
  have a:=H.cell hc;unfold doorAt doorsL at hd;obtain ⟨he,hdr⟩:=List.mem_filter.1 hd;unfold okCell at a;simp only [Bool.and_eq_true] at a;have b:=List.all_eq_true.1 a.2 d he;have hc':=hc;unfold Path.inC at hc';unfold beyAt bey at hb ⊢;have here : ((c.toNat : Nat) : Int) = c:=by omega
  revert b hb;generalize wth (cellsT n) (rd d 0) (rd d 1) = W;intro hb b;match W,b,hb with
  | [p],b,hb =>
    have e : p = c:=by have:=of_decide_eq_true b;omega
    have : p≠-1:=by omega
    simp [fb,this,e];omega
  | [p,q],b,hb =>
    simp only [Bool.or_eq_true,Bool.and_eq_true,decide_eq_true_eq] at b;rcases b with b|b
    · obtain ⟨⟨⟨⟨b1,b2⟩,b3⟩,b4⟩,b5⟩:=b
      have e1 : p = c:=by omega
      have e2 : q≠c:=by omega
      have x1 : fb [p,q] c = q:=by simp [fb,e1,e2]
      omega
    · obtain ⟨⟨⟨⟨b1,b2⟩,b3⟩,b4⟩,b5⟩:=b
      have e1 : q = c:=by omega
      have e2 : p≠c:=by omega
      have x1 : fb [p,q] c = p:=by simp [fb,e2]
      omega
/-- A door with nothing behind is one of the border's. -/
theorem Home.outside {c : Int} {d : List Int} (hc : Path.inC (cnr n) c) (hd : doorAt n L c d) (hb : beyAt n c d = -1) : ∃ s ∈ gates n L,inner s = d:=by
  unfold Path.inC at hc;have a:=List.all_eq_true.1 (H.side.tab outs_tab) c.toNat (List.mem_range.2 (by omega));unfold doorAt doorsL cl at hd;obtain ⟨he,hdr⟩:=List.mem_filter.1 hd;have b:=List.all_eq_true.1 a d he;rw [show ((c.toNat : Nat) : Int) = c by omega] at b;unfold beyAt at hb;rw [hb] at b;simp only [bne_self_eq_false,Bool.false_or] at b;obtain ⟨s,hs,e⟩:=List.mem_map.1 (List.contains_iff_mem.1 b);exact ⟨s,List.mem_filter.2 ⟨hs,by rw [← dr_inner,e];exact hdr⟩,e⟩
theorem Home.begin0 {s : List Int} (hs : s ∈ gates n L) : beyAt n (beyAt n (-1) (inner s)) (inner s) = -1:=by
  obtain ⟨hs,hd⟩:=List.mem_filter.1 hs;have a:=H.side.geo.2.2.2 s hs;unfold okStep at a;simp only [Bool.and_eq_true] at a;have b:=a.2;revert b;unfold beyAt bey;generalize wth (cellsT n) (rd (inner s) 0) (rd (inner s) 1) = W;intro b;match W,b with
  | [p],b =>
    simp only [Bool.and_eq_true,decide_eq_true_eq] at b;have x1 : fb [p] (-1) = p:=by simp [fb];omega
    rw [x1];unfold fb;rw [if_pos rfl];rfl
/-- The last room of a walk that goes out. -/
theorem Home.lastRoom {s : List Int} (hs : s ∈ gates n L) {k : Nat} (h1 : ∀ i,i ≤ k→0 ≤ (at_ n L (beyAt n (-1) (inner s)) (inner s) i).1∧fullAt n L (at_ n L (beyAt n (-1) (inner s)) (inner s) i).1 = false) (h2 : (at_ n L (beyAt n (-1) (inner s)) (inner s) (k + 1)).1 < 0) :
    Path.inC (cnr n) (at_ n L (beyAt n (-1) (inner s)) (inner s) k).1∧doorAt n L (at_ n L (beyAt n (-1) (inner s)) (inner s) k).1 (at_ n L (beyAt n (-1) (inner s)) (inner s) (k + 1)).2∧beyAt n (at_ n L (beyAt n (-1) (inner s)) (inner s) k).1 (at_ n L (beyAt n (-1) (inner s)) (inner s) (k + 1)).2 = -1:=by
  obtain ⟨_,h0,hb⟩:=H.begin hs;obtain ⟨g1,g2⟩:=Path.alive H.house hb k (fun i hi=>(h1 i hi).1) (fun i hi=>(h1 i (by omega)).2);obtain ⟨a1,a2⟩:=g1 k (Nat.le_refl _);obtain ⟨o1,o2,o3⟩:=H.house.other _ _ a1 (h1 k (Nat.le_refl _)).2 a2;refine ⟨a1,o1,?_⟩;rcases H.house.beyond _ _ a1 o1 with e|⟨e,_⟩
  · exact e
  · have z : 0 ≤ (at_ n L (beyAt n (-1) (inner s)) (inner s) (k + 1)).1:=e.1
    omega
/-- A walk that goes out, gone back. -/
theorem Home.outBack {s s' : List Int} (hs : s ∈ gates n L) {k : Nat} (ho : Out n L k s s') : beyAt n (-1) (inner s') = (at_ n L (beyAt n (-1) (inner s)) (inner s) k).1∧Out n L k s' s:=by
  obtain ⟨h1,h2,h3⟩:=ho;obtain ⟨_,h0,hb⟩:=H.begin hs;obtain ⟨a1,a2,a3⟩:=H.lastRoom hs h1 h2;have e:=H.beyBack a1 a2 a3;rw [h3] at e;obtain ⟨q1,q2⟩:=Path.back_sq H.house hb (H.begin0 hs) h1;refine ⟨e,?_⟩;unfold at_ at h1 h3 e;unfold Out at_;rw [h3] at q1 q2;rw [e];refine ⟨fun i hi=>?_,?_,?_⟩
  · rw [q1 i hi];exact h1 (k - i) (by omega)
  · rw [q2];show (-1 : Int) < 0;decide
  · rw [q2]
theorem Home.injB {a b : List Int} (ha : a ∈ gates n L) (hb : b ∈ gates n L) (e : inner a = inner b) : a = b:=by
  have t:=List.all_eq_true.1 (List.all_eq_true.1 (H.side.tab inner_tab) a (List.mem_filter.1 ha).1) b (List.mem_filter.1 hb).1;rw [e] at t;simpa using t
omit H in
theorem outOne {s a b : List Int} {k k' : Nat} (ho : Out n L k s a) (ho' : Out n L k' s b) : k = k'∧inner a = inner b:=by
  obtain ⟨h1,h2,h3⟩:=ho;obtain ⟨g1,g2,g3⟩:=ho'
  have e : k = k':=by
    rcases Nat.lt_trichotomy k k' with h|h|h
    · have:=(g1 (k + 1) (by omega)).1;omega
    · exact h
    · have:=(h1 (k' + 1) (by omega)).1;omega
  subst e;exact ⟨rfl,by rw [← h3,← g3]⟩
theorem Home.outOther {s : List Int} (hs : s ∈ gates n L) {k : Nat} : ¬ Out n L k s s:=fun ho=>by
  obtain ⟨e,_⟩:=H.outBack hs ho;obtain ⟨h1,h2,h3⟩:=ho;obtain ⟨_,h0,hb⟩:=H.begin hs;obtain ⟨g1,g2⟩:=Path.alive H.house hb k (fun i hi=>(h1 i hi).1) (fun i hi=>(h1 i (by omega)).2);cases k with
  | zero =>
    obtain ⟨a1,a2⟩:=g1 0 (Nat.le_refl _);exact (H.house.other _ _ a1 (h1 0 (Nat.le_refl _)).2 a2).2.1 h3
  | succ k=>exact g2 0 (k + 1) (by omega) (Nat.le_refl _) e
/-- A walk in at a door of the border ends in a full room or goes out by a door of the border. -/
theorem Home.walkEnds {s : List Int} (hs : s ∈ gates n L) : (∃ k s',s' ∈ gates n L∧Out n L k s s') ∨ ∃ K,(∀ i,i < K→0 ≤ (at_ n L (beyAt n (-1) (inner s)) (inner s) i).1∧fullAt n L (at_ n L (beyAt n (-1) (inner s)) (inner s) i).1 = false)∧0 ≤ (at_ n L (beyAt n (-1) (inner s)) (inner s) K).1∧fullAt n L (at_ n L (beyAt n (-1) (inner s)) (inner s) K).1 = true:=by
  obtain ⟨_,h0,hb⟩:=H.begin hs;obtain ⟨K,hK,hw,he⟩:=Path.ends H.house hb;rcases he with he|he
  · cases K with
    | zero=>exact absurd h0 (by have : (Path.sq (beyAt n) (othAt n L) (beyAt n (-1) (inner s)) (inner s) 0).1 = beyAt n (-1) (inner s):=rfl;omega)
    | succ K =>
      have h1 : ∀ i,i ≤ K→0 ≤ (at_ n L (beyAt n (-1) (inner s)) (inner s) i).1∧fullAt n L (at_ n L (beyAt n (-1) (inner s)) (inner s) i).1 = false:=fun i hi=>hw i (by omega)
      obtain ⟨a1,a2,a3⟩:=H.lastRoom hs h1 he;obtain ⟨s',hs',e⟩:=H.outside a1 a2 a3;exact .inl ⟨K,s',hs',h1,he,e.symm⟩
  · exact .inr ⟨K,hw,he⟩
theorem Home.gatesNodup : (gates n L).Nodup:=(of_decide_eq_true (H.side.tab steps_nodup)).filter _
/-- Opposite labels: a walk in at a door of the border ends at an opposite edge. -/
theorem Home.someFull (hop : (bordT n).all (op1 n L) = true) (hno : ff L (stepsT (bordT n)) = none) : ∃ s ∈ gates n L,∃ K,(∀ i,i < K→0 ≤ (at_ n L (beyAt n (-1) (inner s)) (inner s) i).1∧fullAt n L (at_ n L (beyAt n (-1) (inner s)) (inner s) i).1 = false)∧0 ≤ (at_ n L (beyAt n (-1) (inner s)) (inner s) K).1∧fullAt n L (at_ n L (beyAt n (-1) (inner s)) (inner s) K).1 = true:=by
  refine Classical.byContradiction fun hnot=>?_
  have hall : ∀ s ∈ gates n L,∃ s' ∈ gates n L,∃ k,Out n L k s s':=fun s hs=>by
    rcases H.walkEnds hs with ⟨k,s',hs',ho⟩|h
    · exact ⟨s',hs',k,ho⟩
    · exact absurd ⟨s,hs,h⟩ hnot
  have:=Path.even_rel (fun s s'=>∃ k,Out n L k s s') _ (gates n L) (Nat.le_refl _) H.gatesNodup hall (fun a b ha hb ⟨k,h⟩=>⟨k,(H.outBack ha h).2⟩) (fun a b c ha hb hc ⟨k,h⟩ ⟨k',h'⟩=>H.injB hb hc (outOne h h').2) (fun a ha ⟨k,h⟩=>H.outOther ha h);have:=H.oddGates hop hno;omega
end
end Go.Proofs.Ytlolkkfpfjlhmaa.QFnOppositeEdgesFound
/-! FindOpposite of the program and of the reference: both find an opposite edge exactly if the labels of the border are opposite. -/
namespace Go.Proofs.Ytlolkkfpfjlhmaa.QFnOppositeEdgesFound
open Go.RowKit Go.Proofs.Ytlolkkfpfjlhmaa.PFnOppositeEdgesFound Go.Proofs.YtlolkkfpfjlhmaaW.PrintWords Go.Proofs.YtlolkkfpfjlhmaaW.PrintLast Go.Proofs.YtlolkkfpfjlhmaaW.PrintMore
set_option linter.unusedVariables false
set_option linter.unusedSimpArgs false
set_option maxRecDepth 100000
/-- Are two points neighbours? -/
def nb (n : Nat) (i j : Int) : Bool :=
  let w : Int:=2 * (n : Int) + 1
  let dx:=j % w - i % w
  let dy:=j / w - i / w
  decide (-1 ≤ dx∧dx ≤ 1) && decide (-1 ≤ dy∧dy ≤ 1) && decide (i≠j) && decide (0 ≤ dx * dy)
theorem edge_tab : ((List.range 5).all fun n=>n == 0 || (cellsT n).all fun c=>(edges c).all fun d=>nb n (rd d 0) (rd d 1)) = true:=by decide +kernel
theorem step_tab : ((List.range 5).all fun n=>n == 0 || (stepsT (bordT n)).all fun s=>nb n (rd (inner s) 0) (rd (inner s) 1) && decide (rd (inner s) 0 < rd (inner s) 1)) = true:=by decide +kernel
section
variable {n : Nat} {L : List Int} (H : Home n L)
include H
theorem sgn_home : sgnB (n : Int) L = true:=by
  have hlo:=H.side.lo;have hhi:=H.side.hi;have hl:=H.lbl.len;have hp:=H.side.pts_le;have hc : cnt (n : Int) = (pts n : Int):=of_decide_eq_true (H.side.tab cnt_tab);unfold sgnB;rw [decide_eq_true (show 1 ≤ (n : Int)∧(n : Int) ≤ 4 by omega),Bool.true_and,hc,decide_eq_true (show (L.length : Int) = (pts n : Int) by omega),Bool.true_and];unfold okB;refine List.all_eq_true.2 fun x hx=>?_
  obtain ⟨i,hi,e⟩:=List.getElem_of_mem hx;have:=H.lbl.ok (i : Int) (by omega) (by omega);rw [rd_at hi,e] at this;rw [decide_eq_true (show -2 ≤ x∧x ≤ 2 by omega),decide_eq_false this.2.2];rfl
end
theorem bord_tab : ((List.range 5).all fun n=>n == 0 || (bordT n).all fun x=>decide (0 ≤ x∧x < (pts n : Int))) = true:=by decide +kernel
section
variable {n : Nat} {L : List Int} (H : Home n L)
include H
theorem bord_ok : ∀ x ∈ bordT n,0 ≤ x∧x < (pts n : Int):=fun x hx=>of_decide_eq_true (List.all_eq_true.1 (H.side.tab bord_tab) x hx)
theorem op_one {x : Int} (hx : 0 ≤ x∧x < (pts n : Int)) : impl_areOpposite_1.f x [L] [(pts n : Int) - 1] = some (!op1 n L x):=by
  have hl:=H.lbl.len;have hp:=H.side.pts_le;have r1:=H.lbl.ok x hx.1 hx.2;have r2:=H.lbl.ok ((pts n : Int) - 1 - x) (by omega) (by omega);have e0 : rd_L2 [L] 0 = L:=rfl;have e1 : rd [(pts n : Int) - 1] 0 = (pts n : Int) - 1:=rfl;unfold impl_areOpposite_1.f op1;rw [e0,e1,if_pos (by simp),if_pos hx.1,if_pos (by omega),if_pos (by simp),wr (x:=(pts n : Int) - 1 - x) (by omega) (by omega),if_pos (by omega),if_pos (by omega),wr (by omega) (by omega)];congr 1
theorem op_index : ∀ d i : Nat,i + d = (bordT n).length→∃ r : Int,Ev (fun k=>slices_IndexFunc_int_int__impl_areOpposite_1.l0 k (bordT n) ((bordT n).length : Int) (i : Int) [L] [(pts n : Int) - 1]) r∧decide (r ≥ 0) = !((bordT n).drop i).all (op1 n L)
  | 0,i,h=>⟨-1,Ev.step (fun f=>slices_IndexFunc_int_int__impl_areOpposite_1.l0.eq_2 ..) (ev_neg (by omega) (Ev.now _)),by rw [List.drop_eq_nil_of_le (by omega)];rfl⟩
  | d + 1,i,h=>by
    have hlt : i < (bordT n).length:=by omega
    have hB:=H.lenB
    have ho:=op_one H (bord_ok H _ (List.getElem_mem hlt))
    rw [List.drop_eq_getElem_cons hlt,List.all_cons]
    cases hc : op1 n L (bordT n)[i] with
    | true =>
      obtain ⟨r,h1,h2⟩:=op_index d (i + 1) (by omega)
      refine ⟨r,Ev.step (fun f=>slices_IndexFunc_int_int__impl_areOpposite_1.l0.eq_2 ..) (ev_pos (by omega) (ev_pos (by omega) (ev_pos (by omega) ?_))),by rw [h2,Bool.true_and]⟩
      rw [rd_at hlt,wr (by omega) (by omega)]
      exact ev_bind0 ho (ev_neg (by rw [hc];decide) h1)
    | false =>
      refine ⟨i,Ev.step (fun f=>slices_IndexFunc_int_int__impl_areOpposite_1.l0.eq_2 ..) (ev_pos (by omega) (ev_pos (by omega) (ev_pos (by omega) ?_))),by rw [Bool.false_and,decide_eq_true (by omega)];rfl⟩
      rw [rd_at hlt]
      exact ev_bind0 ho (ev_pos (by rw [hc];rfl) (Ev.now _))
theorem is_loop : ∀ d i : Nat,i + d = (bordT n).length→Ev (fun k=>spec_opIs.l0 k (n : Int) L (bordT n) ((bordT n).length : Int) (i : Int)) (((bordT n).drop i).all (op1 n L))
  | 0,i,h=>Ev.step (fun f=>spec_opIs.l0.eq_2 ..) (ev_neg (by omega) (ev_eq (Ev.now _) (by rw [List.drop_eq_nil_of_le (by omega)];rfl)))
  | d + 1,i,h=>by
    have hlt : i < (bordT n).length:=by omega
    have hB:=H.lenB
    have hx:=bord_ok H _ (List.getElem_mem hlt)
    have hl:=H.lbl.len
    have hp:=H.side.pts_le
    have r1:=H.lbl.ok (bordT n)[i] hx.1 hx.2
    have r2:=H.lbl.ok ((pts n : Int) - 1 - (bordT n)[i]) (by omega) (by omega)
    have hcnt : spec_opCount.f (n : Int) = some (pts n : Int):=by
      have c:=of_decide_eq_true (H.side.tab cnt_tab);show some (cnt (n : Int)) = _;rw [c]
    rw [List.drop_eq_getElem_cons hlt,List.all_cons];refine Ev.step (fun f=>spec_opIs.l0.eq_2 ..) (ev_pos (by omega) (ev_pos (by omega) (ev_pos (by omega) ?_)));rw [rd_at hlt,wr (x:=(i : Int) + 1) (by omega) (by omega)];refine ev_pos hx.1 (ev_pos (by omega) (ev_bind0 hcnt ?_));rw [wr (x:=(pts n : Int) - 1) (by omega) (by omega),wr (x:=(pts n : Int) - 1 - (bordT n)[i]) (by omega) (by omega),wr (x:=rd L (bordT n)[i] + rd L ((pts n : Int) - 1 - (bordT n)[i])) (by omega) (by omega)];refine ev_pos (by omega) (ev_pos (by omega) ?_);by_cases hz : rd L (bordT n)[i] + rd L ((pts n : Int) - 1 - (bordT n)[i]) = 0
    · exact ev_pos hz (ev_eq (is_loop d (i + 1) (by omega)) (by rw [show op1 n L (bordT n)[i] = true from decide_eq_true hz,Bool.true_and]))
    · exact ev_neg hz (ev_eq (Ev.now _) (by rw [show op1 n L (bordT n)[i] = false from decide_eq_false hz,Bool.false_and]))
end
section
variable {n : Nat} {L : List Int} (H : Home n L)
include H
theorem imp_loop (R : List Int × Bool) (h2 : ff L (stepsT (bordT n)) = none→Ev (fun k=>(impl_square_cells.f k (n : Int)).bind fun t=>(impl_squareDoors.f k (n : Int) L).bind fun t'=>impl_FindOpposite.l1 k L t t' (t'.length : Int) 0) R) (h1 : ∀ e,ff L (stepsT (bordT n)) = some e→R = (e,true)) : ∀ d i : Nat,i + d = (stepsT (bordT n)).length →
    ff L ((stepsT (bordT n)).drop i) = ff L (stepsT (bordT n))→Ev (fun k=>impl_FindOpposite.l0 k (n : Int) L (stepsT (bordT n)) ((stepsT (bordT n)).length : Int) (i : Int)) R
  | 0,i,h,hf=>Ev.step (fun f=>impl_FindOpposite.l0.eq_2 ..) (ev_neg (by omega) (h2 (by rw [← hf,List.drop_eq_nil_of_le (by omega)];rfl)))
  | d + 1,i,h,hf=>by
    have hlt : i < (stepsT (bordT n)).length:=by omega
    have hS:=H.steps_len
    have hl:=H.lbl.len
    obtain ⟨x,y,e,hx,hy⟩:=H.step (List.getElem_mem hlt)
    have r1:=H.lbl.ok x hx.1 hx.2
    have r2:=H.lbl.ok y hy.1 hy.2
    have e0 : rd [x,y] 0 = x:=rfl
    have e1 : rd [x,y] 1 = y:=rfl
    rw [List.drop_eq_getElem_cons hlt,e,ff,e0,e1] at hf
    refine Ev.step (fun f=>impl_FindOpposite.l0.eq_2 ..) (ev_pos (by omega) (ev_pos (by omega) (ev_pos (by omega) ?_)))
    rw [row_at hlt,e,e0,e1,wr (x:=rd L x + rd L y) (by omega) (by omega),wr (x:=(i : Int) + 1) (by omega) (by omega)]
    refine ev_pos (by simp) (ev_pos hx.1 (ev_pos (by omega) (ev_pos (by simp) (ev_pos hy.1 (ev_pos (by omega) ?_)))))
    by_cases hz : rd L x + rd L y = 0
    · rw [if_pos hz] at hf
      exact ev_pos hz (ev_bind0 (show impl_sorted.f x y = some (inner [x,y]) from rfl) (ev_eq (Ev.now _) (h1 _ hf.symm).symm))
    · rw [if_neg hz] at hf
      exact ev_neg hz (imp_loop R h2 h1 d (i + 1) (by omega) hf)
theorem spc_loop (R : List Int × Bool) (h2 : ff L (stepsT (bordT n)) = none→Ev (fun k=>(spec_opDoors.f k (n : Int) L).bind fun t=>spec_FindOpposite.l1 k (n : Int) L t (t.length : Int) 0) R) (h1 : ∀ e,ff L (stepsT (bordT n)) = some e→R = (e,true)) : ∀ d i : Nat,i + d = (bordT n).length →
    ff L ((stepsT (bordT n)).drop i) = ff L (stepsT (bordT n))→Ev (fun k=>spec_FindOpposite.l0 k (n : Int) L (bordT n) (bordT n) ((bordT n).length : Int) (i : Int)) R
  | 0,i,h,hf=>Ev.step (fun f=>spec_FindOpposite.l0.eq_2 ..) (ev_neg (by omega) (h2 (by rw [← hf,List.drop_eq_nil_of_le (by rw [stepsT_eq,List.length_map,List.length_range];omega)];rfl)))
  | d + 1,i,h,hf=>by
    have hB:=H.lenB
    have hl:=H.lbl.len
    have hsl : (stepsT (bordT n)).length = (bordT n).length:=by rw [stepsT_eq,List.length_map,List.length_range]
    have hlt : i < (stepsT (bordT n)).length:=by omega
    have ht : Int.tmod (wrap64 ((i : Int) + 1)) ((bordT n).length : Int) = Int.ofNat ((i + 1) % (bordT n).length):=by rw [wr (by omega) (by omega)];rfl
    have hm:=Nat.mod_lt (i + 1) (show (bordT n).length > 0 by omega)
    have hst : QFnOppositeEdgesFound.step (bordT n) i ∈ stepsT (bordT n):=by rw [stepsT_eq];exact List.mem_map_of_mem (List.mem_range.2 (by omega))
    obtain ⟨x,y,e,hx,hy⟩:=H.step hst
    have r1:=H.lbl.ok x hx.1 hx.2
    have r2:=H.lbl.ok y hy.1 hy.2
    have e0 : rd [x,y] 0 = x:=rfl
    have e1 : rd [x,y] 1 = y:=rfl
    have eg : (stepsT (bordT n))[i] = [x,y]:=by
      rw [← e];simp only [stepsT_eq,List.getElem_map,List.getElem_range]
    rw [List.drop_eq_getElem_cons hlt,eg,ff,e0,e1] at hf
    have q1 : rd (bordT n) (i : Int) = x:=by
      have:=congrArg (fun l : List Int=>rd l 0) e;exact this
    have q2 : rd (bordT n) (Int.ofNat ((i + 1) % (bordT n).length)) = y:=by
      have:=congrArg (fun l : List Int=>rd l 1) e;exact this
    refine Ev.step (fun f=>spec_FindOpposite.l0.eq_2 ..) (ev_pos (by omega) (ev_pos (by omega) (ev_pos (by omega) (ev_neg (by omega) ?_))));rw [ht];refine ev_pos (Int.natCast_nonneg _) (ev_pos (Int.ofNat_lt.2 hm) ?_);rw [q1,q2,wr (x:=rd L x + rd L y) (by omega) (by omega),wr (x:=(i : Int) + 1) (by omega) (by omega)];refine ev_pos hx.1 (ev_pos (by omega) (ev_pos hy.1 (ev_pos (by omega) ?_)));by_cases hz : rd L x + rd L y = 0
    · rw [if_pos hz] at hf
      exact ev_pos hz (ev_bind0 (show spec_doInner.f x y = some (inner [x,y]) from doInner_eq x y) (ev_eq (Ev.now _) (h1 _ hf.symm).symm))
    · rw [if_neg hz] at hf
      exact ev_neg hz (spc_loop R h2 h1 d (i + 1) (by omega) hf)
omit H in
theorem fe_len (w : List Int) : (fe L w).length ≤ 2:=by
  unfold fe;split
  · simp
  · split
    · simp
    · split <;> simp
/-- A walk in at a door of the border that ends at an opposite edge. -/
def Fin (n : Nat) (L : List Int) (s : List Int) : Prop:=∃ K,(∀ i,i < K→0 ≤ (at_ n L (beyAt n (-1) (inner s)) (inner s) i).1∧fullAt n L (at_ n L (beyAt n (-1) (inner s)) (inner s) i).1 = false)∧0 ≤ (at_ n L (beyAt n (-1) (inner s)) (inner s) K).1∧fullAt n L (at_ n L (beyAt n (-1) (inner s)) (inner s) K).1 = true
omit H in
theorem notFin {s : List Int} {K : Nat} (hr : ∀ i,i < K→Path.inC (cnr n) (at_ n L (beyAt n (-1) (inner s)) (inner s) i).1∧fullAt n L (at_ n L (beyAt n (-1) (inner s)) (inner s) i).1 = false) (hk : (at_ n L (beyAt n (-1) (inner s)) (inner s) K).1 < 0) : ¬ Fin n L s:=fun ⟨K',h1,h2,h3⟩=>by
  rcases Nat.lt_trichotomy K' K with h|h|h
  · have:=(hr K' h).2;rw [h3] at this;cases this
  · subst h;omega
  · have:=(h1 K h).1;omega
theorem walk_loops : ∀ d i : Nat,i + d = (gates n L).length→∃ r : List Int × Bool,r.1.length ≤ 2∧Ev (fun k=>impl_FindOpposite.l1 k L (cellsT n) (gates n L) ((gates n L).length : Int) (i : Int)) r∧Ev (fun k=>spec_FindOpposite.l1 k (n : Int) L (gates n L) ((gates n L).length : Int) (i : Int)) r ∧
    ((∃ s ∈ (gates n L).drop i,Fin n L s)→r.2 = true)∧(r.2 = true→∃ c,Path.inC (cnr n) c∧fe L (cl n c)≠[]∧r.1 = fe L (cl n c))
  | 0,i,h=>⟨([],false),by simp,Ev.step (fun f=>impl_FindOpposite.l1.eq_2 ..) (ev_neg (by omega) (Ev.now _)),Ev.step (fun f=>spec_FindOpposite.l1.eq_2 ..) (ev_neg (by omega) (Ev.now _)),fun ⟨s,hs,_⟩=>(by rw [List.drop_eq_nil_of_le (by omega)] at hs;cases hs),fun z=>(by cases z)⟩
  | d + 1,i,h=>by
    have hlt : i < (gates n L).length:=by omega
    have hG:=H.gates_len
    have hm:=List.getElem_mem hlt
    have hlen:=H.gate_len hm
    obtain ⟨r,r0,r1,r2,r3,r4⟩:=walk_loops d (i + 1) (by omega)
    obtain ⟨K,hK,hrm,he⟩:=H.enterW hm (p:=rd (gates n L)[i] 0) (q:=rd (gates n L)[i] 1) rfl
    have ev1 : ∀ {vs : List Int} {z : Int} {s : List Int × Bool},Ev (fun k=>impl_squareWalk.f k L (cellsT n) (rd (gates n L)[i] 0) (rd (gates n L)[i] 1)) (vs,z)→Ev (fun k=>if z ≥ 0 then (if 0 ≤ z then (if z < ((cellsT n).length : Int) then (impl_firstEdge.f k L (rd_L2 (cellsT n) z)).bind fun t=>some (t,true) else none) else none) else impl_FindOpposite.l1 k L (cellsT n) (gates n L) ((gates n L).length : Int) ((i + 1 : Nat) : Int)) s →
        Ev (fun k=>impl_FindOpposite.l1 k L (cellsT n) (gates n L) ((gates n L).length : Int) (i : Int)) s:=fun {vs z s} g1 g2=>by
      refine Ev.step (fun f=>impl_FindOpposite.l1.eq_2 ..) (ev_pos (by omega) (ev_pos (by omega) (ev_pos (by omega) ?_)))
      rw [row_at hlt,wr (by omega) (by omega)]
      exact ev_pos (by omega) (ev_pos (by omega) (Ev.bind g1 g2))
    have ev2 : ∀ {vs : List Int} {z : List Int} {s : List Int × Bool},Ev (fun k=>spec_opWalk.f k (n : Int) L (inner (gates n L)[i])) (vs,z)→Ev (fun k=>if (z.length : Int) > 0 then some (z,true) else spec_FindOpposite.l1 k (n : Int) L (gates n L) ((gates n L).length : Int) ((i + 1 : Nat) : Int)) s →
        Ev (fun k=>spec_FindOpposite.l1 k (n : Int) L (gates n L) ((gates n L).length : Int) (i : Int)) s:=fun {vs z s} g1 g2=>by
      refine Ev.step (fun f=>spec_FindOpposite.l1.eq_2 ..) (ev_pos (by omega) (ev_pos (by omega) (ev_pos (by omega) ?_)))
      rw [row_at hlt,wr (by omega) (by omega)]
      exact ev_pos (by omega) (ev_pos (by omega) (ev_bind0 (show spec_doInner.f (rd (gates n L)[i] 0) (rd (gates n L)[i] 1) = some (inner (gates n L)[i]) from doInner_eq _ _) (Ev.bind g1 g2)))
    rcases he with ⟨hk,hi,hp⟩|⟨hc,hf,hne,hi,hp⟩
    · refine ⟨r,r0,ev1 hi (ev_neg (by decide) r1),ev2 hp (ev_neg (by simp) r2),fun ⟨s,hs,hF⟩=>?_,r4⟩
      rw [List.drop_eq_getElem_cons hlt] at hs
      rcases List.mem_cons.1 hs with e|hs
      · subst e;exact absurd hF (notFin hrm hk)
      · exact r3 ⟨s,hs,hF⟩
    · generalize (at_ n L (beyAt n (-1) (inner (gates n L)[i])) (inner (gates n L)[i]) K).1 = c at *
      have rg:=H.range hc
      have ec : rd_L2 (cellsT n) c = cl n c:=rfl
      have hpos : ((fe L (cl n c)).length : Int) > 0:=by
        have:=List.length_pos_iff.2 hne;omega
      refine ⟨(fe L (cl n c),true),fe_len _,ev1 hi (ev_pos rg.1 (ev_pos rg.1 (ev_pos rg.2 ?_))),ev2 hp (ev_pos hpos (Ev.now _)),fun _=>rfl,fun _=>⟨c,hc,hne,rfl⟩⟩;rw [ec];exact Ev.bind (H.first_ev hc) (Ev.now _)
/-- An opposite edge: two neighbours with opposite labels, the lesser one first. -/
def Opp (n : Nat) (L : List Int) (e : List Int) : Prop:=∃ x y,e = [x,y]∧0 ≤ x∧x < y∧y < (pts n : Int)∧nb n x y = true∧rd L x + rd L y = 0
theorem fe_opp {c : Int} (hc : Path.inC (cnr n) c) (hne : fe L (cl n c)≠[]) : Opp n L (fe L (cl n c)):=by
  obtain ⟨x,y,z,e,h0,h1,h2,h3⟩:=tri_of (H.tri hc);have rg:=H.range hc
  have a:=List.all_eq_true.1 (H.side.tab edge_tab) (cl n c) (by
    unfold cl;rw [List.getD_eq_getElem?_getD,List.getElem?_eq_getElem (show c.toNat < (cellsT n).length by omega)];exact List.getElem_mem _)
  rw [e] at a hne ⊢;have a1:=List.all_eq_true.1 a [x,y] (by simp [edges,rd]);have a2:=List.all_eq_true.1 a [x,z] (by simp [edges,rd]);have a3:=List.all_eq_true.1 a [y,z] (by simp [edges,rd]);have hfe : fe L [x,y,z] = if rd L x + rd L y = 0 then [x,y] else if rd L x + rd L z = 0 then [x,z] else if rd L y + rd L z = 0 then [y,z] else []:=rfl
  rw [hfe] at hne ⊢;by_cases g1 : rd L x + rd L y = 0
  · rw [if_pos g1];exact ⟨x,y,rfl,h0,h1,by omega,a1,g1⟩
  · by_cases g2 : rd L x + rd L z = 0
    · rw [if_neg g1,if_pos g2];exact ⟨x,z,rfl,h0,by omega,h3,a2,g2⟩
    · by_cases g3 : rd L y + rd L z = 0
      · rw [if_neg g1,if_neg g2,if_pos g3];exact ⟨y,z,rfl,by omega,h2,h3,a3,g3⟩
      · rw [if_neg g1,if_neg g2,if_neg g3] at hne;exact absurd rfl hne
omit H in
theorem ff_mem {L : List Int} : ∀ {S : List (List Int)} {e : List Int},ff L S = some e→∃ s ∈ S,e = inner s∧rd L (rd s 0) + rd L (rd s 1) = 0
  | [],e,h=>by cases h
  | a :: r,e,h=>by
    rw [ff] at h
    by_cases g : rd L (rd a 0) + rd L (rd a 1) = 0
    · rw [if_pos g] at h;exact ⟨a,List.mem_cons_self,(Option.some.inj h).symm,g⟩
    · rw [if_neg g] at h
      obtain ⟨s,hs,he⟩:=ff_mem h
      exact ⟨s,List.mem_cons_of_mem _ hs,he⟩
theorem ff_opp {e : List Int} (h : ff L (stepsT (bordT n)) = some e) : Opp n L e:=by
  obtain ⟨s,hs,rfl,h0⟩:=ff_mem h;have a:=List.all_eq_true.1 (H.side.tab step_tab) s hs;rw [Bool.and_eq_true,decide_eq_true_eq] at a;obtain ⟨x,y,rfl,hx,hy⟩:=H.step hs;have e0 : rd [x,y] 0 = x:=rfl;have e1 : rd [x,y] 1 = y:=rfl;have i0 : rd (inner [x,y]) 0 = mn x y:=rfl;have i1 : rd (inner [x,y]) 1 = mx x y:=rfl;rw [i0,i1] at a;rw [e0,e1] at h0;refine ⟨mn x y,mx x y,rfl,?_⟩;rcases Int.lt_trichotomy x y with g|g|g
  · obtain ⟨m1,m2⟩:=mn_lt g
    rw [m1,m2] at a ⊢;exact ⟨hx.1,g,hy.2,a.1,h0⟩
  · subst g
    obtain ⟨m1,m2⟩:=mn_self x;rw [m1,m2] at a;omega
  · obtain ⟨m1,m2⟩:=mn_gt g
    rw [m1,m2] at a ⊢;exact ⟨hy.1,g,hx.2,a.1,by omega⟩
/-- FindOpposite and AreOpposite of labels. -/
theorem find_op : ∃ r : List Int × Bool,r.1.length ≤ 2∧Ev (fun k=>impl_FindOpposite.f k (n : Int) L) r∧Ev (fun k=>spec_FindOpposite.f k (n : Int) L) r∧Ev (fun k=>impl_areOpposite.f k (n : Int) L) r.2∧Ev (fun k=>spec_opIs.f k (n : Int) L) r.2∧(r.2 = true→Opp n L r.1):=by
  have hll:=H.lbl.len;have hpl:=H.side.pts_le;have h1 : Ev (fun k=>impl_areSigns.f k (n : Int) L) true:=by rw [← sgn_home H];exact labels_impl (n : Int) L (by omega)
  have h2 : Ev (fun k=>spec_opLabels.f k (n : Int) L) true:=by rw [← sgn_home H];exact labels_spec (n : Int) L (by omega)
  obtain ⟨q,q1,q2⟩:=op_index H (bordT n).length 0 (Nat.zero_add _);have q3:=is_loop H (bordT n).length 0 (Nat.zero_add _);rw [List.drop_zero] at q2 q3
  have hI : Ev (fun k=>impl_areOpposite.f k (n : Int) L) ((bordT n).all (op1 n L)):=by
    refine Ev.bind h1 (ev_pos rfl (Ev.bind H.side.bordI ?_));rw [wr (by omega) (by omega),show (L.length : Int) - 1 = (pts n : Int) - 1 by omega];refine Ev.bind (Ev.bind q1 (ev_eq (Ev.now _) q2)) (ev_eq (Ev.now _) ?_);rw [Bool.not_not]
  have hS : Ev (fun k=>spec_opIs.f k (n : Int) L) ((bordT n).all (op1 n L)):=Ev.bind h2 (ev_pos rfl (Ev.bind H.side.bordS q3));have hr : 1 ≤ (n : Int)∧(n : Int) ≤ 4:=by have:=H.side.lo;have:=H.side.hi;omega
  cases ho : (bordT n).all (op1 n L) with
  | false =>
    rw [ho] at hI hS;refine ⟨([],false),by simp,Ev.bind hI (ev_neg (by decide) (Ev.now _)),?_,hI,hS,fun z=>by cases z⟩;refine ev_bind0 (reach_spec (n : Int)) ?_;rw [decide_eq_true hr];exact ev_pos rfl (Ev.bind hS (Ev.step (fun f=>spec_FindOpposite.j0.eq_2 ..) (ev_pos rfl (Ev.now _))))
  | true =>
    rw [ho] at hI hS;obtain ⟨w,w0,w1,w2,w3,w4⟩:=walk_loops H (gates n L).length 0 (Nat.zero_add _);rw [List.drop_zero] at w3
    have hsd : ∀ R,Ev (fun k=>spec_FindOpposite.l0 k (n : Int) L (bordT n) (bordT n) ((bordT n).length : Int) 0) R→Ev (fun k=>spec_FindOpposite.f k (n : Int) L) R:=fun R hR=>by
      refine ev_bind0 (reach_spec (n : Int)) ?_;rw [decide_eq_true hr];exact ev_pos rfl (Ev.bind hS (Ev.step (fun f=>spec_FindOpposite.j0.eq_2 ..) (ev_neg (by decide) (Ev.bind H.side.bordS hR))))
    have out : ∀ R : List Int × Bool,(∀ e,ff L (stepsT (bordT n)) = some e→R = (e,true))→(ff L (stepsT (bordT n)) = none→R = w)→Ev (fun k=>impl_FindOpposite.f k (n : Int) L) R∧Ev (fun k=>spec_FindOpposite.f k (n : Int) L) R:=fun R g1 g2 =>
      ⟨Ev.bind hI (ev_pos rfl (Ev.bind H.steps_ev (imp_loop H R (fun z=>by rw [g2 z];exact Ev.bind H.side.cellsI (Ev.bind H.entries_ev w1)) g1 (stepsT (bordT n)).length 0 (Nat.zero_add _) rfl))),
        hsd R (spc_loop H R (fun z=>by rw [g2 z];exact Ev.bind H.doors_ev w2) g1 (bordT n).length 0 (Nat.zero_add _) rfl)⟩
    cases hf : ff L (stepsT (bordT n)) with
    | none =>
      obtain ⟨o1,o2⟩:=out w (fun e he=>by rw [hf] at he;cases he) (fun _=>rfl);obtain ⟨s,hs,hF⟩:=H.someFull ho hf;have hw2 : w.2 = true:=w3 ⟨s,hs,hF⟩;refine ⟨w,w0,o1,o2,by rw [hw2];exact hI,by rw [hw2];exact hS,fun _=>?_⟩;obtain ⟨c,hc,hne,e⟩:=w4 hw2;rw [e];exact fe_opp H hc hne
    | some e =>
      obtain ⟨o1,o2⟩:=out (e,true) (fun e' he=>by rw [hf] at he;rw [Option.some.inj he]) (fun z=>by rw [hf] at z;cases z);have ho:=ff_opp H hf;refine ⟨(e,true),?_,o1,o2,hI,hS,fun _=>ho⟩;obtain ⟨x,y,e',_⟩:=ho;show e.length ≤ 2;rw [e'];exact Nat.le_refl _
end
end Go.Proofs.Ytlolkkfpfjlhmaa.QFnOppositeEdgesFound
/-! OppositeEdges of the program and of the reference; an opposite edge is one of them. -/
namespace Go.Proofs.Ytlolkkfpfjlhmaa.QFnOppositeEdgesFound
open Go.RowKit Go.Proofs.Ytlolkkfpfjlhmaa.PFnOppositeEdgesFound Go.Proofs.YtlolkkfpfjlhmaaW.PrintWords Go.Proofs.YtlolkkfpfjlhmaaW.PrintLast Go.Proofs.YtlolkkfpfjlhmaaW.PrintMore
set_option linter.unusedVariables false
set_option linter.unusedSimpArgs false
set_option maxRecDepth 100000
theorem nearI_tab : ((List.range 5).all fun n=>n == 0 || (List.range (pts n)).all fun i=>(List.range (pts n)).all fun j=>impl_square_areNear.f (n : Int) (i : Int) (j : Int) == some (nb n (i : Int) (j : Int))) = true:=by decide +kernel
theorem nearS_tab : ((List.range 5).all fun n=>n == 0 || (List.range (pts n)).all fun i=>(List.range (pts n)).all fun j=>spec_opNear.f (n : Int) (i : Int) (j : Int) == some (nb n (i : Int) (j : Int))) = true:=by decide +kernel
/-- The opposite edges from a point on. -/
def oeRow (n : Nat) (L : List Int) (i : Nat) : Nat→Nat→List (List Int)
  | 0,_=>[]
  | d + 1,j=>(if nb n (i : Int) (j : Int) = true∧rd L (i : Int) + rd L (j : Int) = 0 then [[(i : Int),(j : Int)]] else []) ++ oeRow n L i d (j + 1)
def oeAll (n : Nat) (L : List Int) : Nat→Nat→List (List Int)
  | 0,_=>[]
  | d + 1,i=>oeRow n L i (pts n - (i + 1)) (i + 1) ++ oeAll n L d (i + 1)
theorem oeRow_len (n : Nat) (L : List Int) (i : Nat) : ∀ d j,(oeRow n L i d j).length ≤ d
  | 0,_=>Nat.le_refl _
  | d + 1,j=>by
    have:=oeRow_len n L i d (j + 1)
    rw [oeRow,List.length_append]
    split <;> simp <;> omega
theorem oeRow_two (n : Nat) (L : List Int) (i : Nat) : ∀ d j,∀ e ∈ oeRow n L i d j,e.length = 2
  | 0,_,e,h=>by cases h
  | d + 1,j,e,h=>by
    rw [oeRow] at h
    rcases List.mem_append.1 h with h|h
    · split at h
      · rw [List.mem_singleton.1 h];rfl
      · cases h
    · exact oeRow_two n L i d (j + 1) e h
theorem oeAll_two (n : Nat) (L : List Int) : ∀ d i,∀ e ∈ oeAll n L d i,e.length = 2
  | 0,_,e,h=>by cases h
  | d + 1,i,e,h=>by
    rw [oeAll] at h
    rcases List.mem_append.1 h with h|h
    · exact oeRow_two n L i _ _ e h
    · exact oeAll_two n L d (i + 1) e h
theorem oeAll_len (n : Nat) (L : List Int) : ∀ d i,(oeAll n L d i).length ≤ d * pts n
  | 0,_=>Nat.zero_le _
  | d + 1,i=>by
    have:=oeAll_len n L d (i + 1)
    have:=oeRow_len n L i (pts n - (i + 1)) (i + 1)
    rw [oeAll,List.length_append,Nat.succ_mul]
    omega
theorem oeRow_mem (n : Nat) (L : List Int) (x y : Nat) (h1 : nb n (x : Int) (y : Int) = true) (h2 : rd L (x : Int) + rd L (y : Int) = 0) : ∀ d j,j ≤ y→y < j + d→[(x : Int),(y : Int)] ∈ oeRow n L x d j
  | 0,j,a,b=>by omega
  | d + 1,j,a,b=>by
    rw [oeRow]
    rcases Nat.lt_or_ge j y with h|h
    · exact List.mem_append.2 (.inr (oeRow_mem n L x y h1 h2 d (j + 1) (by omega) (by omega)))
    · have : j = y:=by omega
      subst this
      rw [if_pos ⟨h1,h2⟩]
      exact List.mem_append.2 (.inl List.mem_cons_self)
theorem oeAll_mem (n : Nat) (L : List Int) (x y : Nat) (hxy : x < y) (hy : y < pts n) (h1 : nb n (x : Int) (y : Int) = true) (h2 : rd L (x : Int) + rd L (y : Int) = 0) : ∀ d i,i ≤ x→x < i + d→[(x : Int),(y : Int)] ∈ oeAll n L d i
  | 0,i,a,b=>by omega
  | d + 1,i,a,b=>by
    rw [oeAll]
    rcases Nat.lt_or_ge i x with h|h
    · exact List.mem_append.2 (.inr (oeAll_mem n L x y hxy hy h1 h2 d (i + 1) (by omega) (by omega)))
    · have : i = x:=by omega
      subst this
      exact List.mem_append.2 (.inl (oeRow_mem n L i y h1 h2 _ _ (by omega) (by omega)))
section
variable {n : Nat} {L : List Int} (H : Home n L)
include H
omit H in
theorem opp_mem {e : List Int} (h : Opp n L e) : e ∈ oeAll n L (pts n) 0:=by
  obtain ⟨x,y,rfl,h0,h1,h2,h3,h4⟩:=h;obtain ⟨x,rfl⟩:=Int.eq_ofNat_of_zero_le h0;obtain ⟨y,rfl⟩:=Int.eq_ofNat_of_zero_le (show 0 ≤ y by omega);exact oeAll_mem n L x y (by omega) (by omega) h3 h4 (pts n) 0 (Nat.zero_le _) (by omega)
theorem nearI {i j : Nat} (hi : i < pts n) (hj : j < pts n) : impl_square_areNear.f (n : Int) (i : Int) (j : Int) = some (nb n (i : Int) (j : Int)):=eq_of_beq (List.all_eq_true.1 (List.all_eq_true.1 (H.side.tab nearI_tab) i (List.mem_range.2 hi)) j (List.mem_range.2 hj))
theorem nearS {i j : Nat} (hi : i < pts n) (hj : j < pts n) : spec_opNear.f (n : Int) (i : Int) (j : Int) = some (nb n (i : Int) (j : Int)):=eq_of_beq (List.all_eq_true.1 (List.all_eq_true.1 (H.side.tab nearS_tab) i (List.mem_range.2 hi)) j (List.mem_range.2 hj))
theorem edgesI_row (i : Nat) (hi : i < pts n) (r : List (List Int) × Bool) : ∀ (d j : Nat) (out : List (List Int)),j + d = pts n→out.length ≤ 100 * i + j→Ev (fun k=>impl_OppositeEdges.l0 k L (out ++ oeRow n L i d j) (L.length : Int) (wrap64 ((i : Int) + 1)) (n : Int)) r→Ev (fun k=>impl_OppositeEdges.l1 k L out (i : Int) (j : Int) (L.length : Int) (i : Int) (n : Int)) r
  | 0,j,out,h,ho,hr=>by
    have hl:=H.lbl.len
    rw [oeRow,List.append_nil] at hr
    exact Ev.step (fun f=>impl_OppositeEdges.l1.eq_2 ..) (ev_neg (by omega) hr)
  | d + 1,j,out,h,ho,hr=>by
    have hl:=H.lbl.len
    have hp:=H.side.pts_le
    have r1:=H.lbl.ok (i : Int) (by omega) (by omega)
    have r2:=H.lbl.ok (j : Int) (by omega) (by omega)
    have w1 : wrap64 ((j : Int) + 1) = ((j + 1 : Nat) : Int):=by rw [wr (by omega) (by omega)];omega
    have ih:=fun out'=>edgesI_row i hi r d (j + 1) out' (by omega)
    rw [oeRow] at hr
    refine Ev.step (fun f=>impl_OppositeEdges.l1.eq_2 ..) (ev_pos (by omega) (ev_bind0 (nearI H hi (show j < pts n by omega)) ?_))
    rw [w1,wr (x:=rd L (i : Int) + rd L (j : Int)) (by omega) (by omega)]
    cases hn : nb n (i : Int) (j : Int) with
    | false =>
      rw [hn,if_neg (fun z=>by cases z.1),List.nil_append] at hr
      exact ev_neg Bool.false_ne_true (ih out (by omega) hr)
    | true =>
      refine ev_pos rfl (ev_pos (by omega) (ev_pos (by omega) (ev_pos (by omega) ?_)))
      by_cases hz : rd L (i : Int) + rd L (j : Int) = 0
      · rw [hn,if_pos ⟨rfl,hz⟩,← List.append_assoc] at hr
        exact ev_pos hz (ev_pos (by omega) (ih _ (by rw [List.length_append,List.length_singleton];omega) hr))
      · rw [hn,if_neg (fun z=>hz z.2),List.nil_append] at hr
        exact ev_neg hz (ih out (by omega) hr)
theorem edgesI : ∀ (d i : Nat) (out : List (List Int)),i + d = pts n→out.length ≤ 100 * i→Ev (fun k=>impl_OppositeEdges.l0 k L out (L.length : Int) (i : Int) (n : Int)) (out ++ oeAll n L d i,true)
  | 0,i,out,h,ho=>by
    have hl:=H.lbl.len
    exact Ev.step (fun f=>impl_OppositeEdges.l0.eq_2 ..) (ev_neg (by omega) (ev_eq (Ev.now _) (by rw [oeAll,List.append_nil])))
  | d + 1,i,out,h,ho=>by
    have hl:=H.lbl.len
    have hp:=H.side.pts_le
    have w1 : wrap64 ((i : Int) + 1) = ((i + 1 : Nat) : Int):=by rw [wr (by omega) (by omega)];omega
    have hr:=oeRow_len n L i (pts n - (i + 1)) (i + 1)
    have ih:=edgesI d (i + 1) (out ++ oeRow n L i (pts n - (i + 1)) (i + 1)) (by omega) (by rw [List.length_append];omega)
    refine Ev.step (fun f=>impl_OppositeEdges.l0.eq_2 ..) (ev_pos (by omega) ?_)
    rw [w1]
    refine edgesI_row H i (by omega) _ (pts n - (i + 1)) (i + 1) out (by omega) (by omega) ?_
    rw [w1,oeAll,← List.append_assoc]
    exact ih
theorem edgesS_row (i : Nat) (hi : i < pts n) (r : List (List Int) × Bool) : ∀ (d j : Nat) (out : List (List Int)),j + d = pts n→out.length ≤ 100 * i + j→Ev (fun k=>spec_OppositeEdges.l0 k (n : Int) L (out ++ oeRow n L i d j) (L.length : Int) (wrap64 ((i : Int) + 1))) r→Ev (fun k=>spec_OppositeEdges.l1 k (n : Int) L out (i : Int) (j : Int) (L.length : Int) (i : Int)) r
  | 0,j,out,h,ho,hr=>by
    have hl:=H.lbl.len
    rw [oeRow,List.append_nil] at hr
    exact Ev.step (fun f=>spec_OppositeEdges.l1.eq_2 ..) (ev_neg (by omega) hr)
  | d + 1,j,out,h,ho,hr=>by
    have hl:=H.lbl.len
    have hp:=H.side.pts_le
    have r1:=H.lbl.ok (i : Int) (by omega) (by omega)
    have r2:=H.lbl.ok (j : Int) (by omega) (by omega)
    have w1 : wrap64 ((j : Int) + 1) = ((j + 1 : Nat) : Int):=by rw [wr (by omega) (by omega)];omega
    have ih:=fun out'=>edgesS_row i hi r d (j + 1) out' (by omega)
    rw [oeRow] at hr
    refine Ev.step (fun f=>spec_OppositeEdges.l1.eq_2 ..) (ev_pos (by omega) (ev_bind0 (nearS H hi (show j < pts n by omega)) ?_))
    rw [w1,wr (x:=rd L (i : Int) + rd L (j : Int)) (by omega) (by omega)]
    cases hn : nb n (i : Int) (j : Int) with
    | false =>
      rw [hn,if_neg (fun z=>by cases z.1),List.nil_append] at hr
      exact ev_neg Bool.false_ne_true (ih out (by omega) hr)
    | true =>
      refine ev_pos rfl (ev_pos (by omega) (ev_pos (by omega) (ev_pos (by omega) ?_)))
      by_cases hz : rd L (i : Int) + rd L (j : Int) = 0
      · rw [hn,if_pos ⟨rfl,hz⟩,← List.append_assoc] at hr
        exact ev_pos hz (ev_pos (by omega) (ih _ (by rw [List.length_append,List.length_singleton];omega) hr))
      · rw [hn,if_neg (fun z=>hz z.2),List.nil_append] at hr
        exact ev_neg hz (ih out (by omega) hr)
theorem edgesS : ∀ (d i : Nat) (out : List (List Int)),i + d = pts n→out.length ≤ 100 * i→Ev (fun k=>spec_OppositeEdges.l0 k (n : Int) L out (L.length : Int) (i : Int)) (out ++ oeAll n L d i,true)
  | 0,i,out,h,ho=>by
    have hl:=H.lbl.len
    exact Ev.step (fun f=>spec_OppositeEdges.l0.eq_2 ..) (ev_neg (by omega) (ev_eq (Ev.now _) (by rw [oeAll,List.append_nil])))
  | d + 1,i,out,h,ho=>by
    have hl:=H.lbl.len
    have hp:=H.side.pts_le
    have w1 : wrap64 ((i : Int) + 1) = ((i + 1 : Nat) : Int):=by rw [wr (by omega) (by omega)];omega
    have hr:=oeRow_len n L i (pts n - (i + 1)) (i + 1)
    have ih:=edgesS d (i + 1) (out ++ oeRow n L i (pts n - (i + 1)) (i + 1)) (by omega) (by rw [List.length_append];omega)
    refine Ev.step (fun f=>spec_OppositeEdges.l0.eq_2 ..) (ev_pos (by omega) ?_)
    rw [w1]
    refine edgesS_row H i (by omega) _ (pts n - (i + 1)) (i + 1) out (by omega) (by omega) ?_
    rw [w1,oeAll,← List.append_assoc]
    exact ih
end
end Go.Proofs.Ytlolkkfpfjlhmaa.QFnOppositeEdgesFound
/-! SquareWalk of the program and of the reference: both tell the same; a walk goes through cells without opposite labels, up to its last cell. -/
namespace Go.Proofs.Ytlolkkfpfjlhmaa.QFnOppositeEdgesFound
open Go.RowKit Go.Proofs.Ytlolkkfpfjlhmaa.PFnOppositeEdgesFound Go.Proofs.YtlolkkfpfjlhmaaW.PrintWords Go.Proofs.YtlolkkfpfjlhmaaW.PrintLast Go.Proofs.YtlolkkfpfjlhmaaW.PrintMore
set_option linter.unusedVariables false
set_option linter.unusedSimpArgs false
set_option maxRecDepth 100000
theorem equal_loop (a b : List Int) (hl : a.length = b.length) (hs : a.length ≤ 1000000) : ∀ d i : Nat,i + d = a.length→Ev (fun k=>slices_Equal_int_int.l0 k a b (a.length : Int) (i : Int)) (decide (a.drop i = b.drop i))
  | 0,i,h=>Ev.step (fun f=>slices_Equal_int_int.l0.eq_2 ..) (ev_neg (by omega) (ev_eq (Ev.now _) (by rw [List.drop_eq_nil_of_le (by omega),List.drop_eq_nil_of_le (by omega)];rfl)))
  | d + 1,i,h=>by
    have hd:=drop_eq hl (show i < a.length by omega)
    refine Ev.step (fun f=>slices_Equal_int_int.l0.eq_2 ..) (ev_pos (by omega) (ev_pos (by omega) (ev_pos (by omega) (ev_pos (by omega) ?_))))
    rw [wr (by omega) (by omega)]
    by_cases e : rd a (i : Int) = rd b (i : Int)
    · exact ev_pos e (ev_eq (equal_loop a b hl hs d (i + 1) (by omega)) (by rw [decide_eq_decide];exact ⟨fun z=>hd.2 ⟨e,z⟩,fun z=>(hd.1 z).2⟩))
    · exact ev_neg e (ev_eq (Ev.now _) (by rw [decide_eq_false (fun z=>e (hd.1 z).1)]))
theorem equal_ev (a b : List Int) (hs : a.length ≤ 1000000) : Ev (fun k=>slices_Equal_int_int.f k a b) (decide (a = b)):=by
  by_cases hl : a.length = b.length
  · have:=equal_loop a b hl hs a.length 0 (by omega)
    rw [List.drop_zero,List.drop_zero] at this;exact ev_pos (by omega) this
  · exact ev_neg (by omega) (ev_eq (Ev.now _) (decide_eq_false (fun z=>hl (by rw [z]))).symm)
theorem entry1_ev (p q : Int) {s : List Int} (hs : s.length = 2) : Ev (fun k=>impl_SquareWalk_1.f k s [p] [q]) (decide (inner s = [mn p q,mx p q])):=by
  refine ev_pos (by omega) (ev_pos (by omega) (ev_bind0 (show impl_sorted.f (rd s 0) (rd s 1) = some (inner s) from rfl) (ev_pos (by simp) (ev_pos (by simp) (ev_bind0 (show impl_sorted.f (rd [p] 0) (rd [q] 0) = some [mn p q,mx p q] from rfl) ?_)))));exact Ev.bind (equal_ev (inner s) [mn p q,mx p q] (by show 2 ≤ 1000000;decide)) (Ev.now _)
theorem entry_index (p q : Int) (G : List (List Int)) (hG : G.length ≤ 1000) (hs : ∀ s ∈ G,s.length = 2) : ∀ d i : Nat,i + d = G.length→∃ r : Int,Ev (fun k=>slices_IndexFunc_int_int__impl_SquareWalk_1.l0 k G (G.length : Int) (i : Int) [p] [q]) r∧decide (r ≥ 0) = isIn (G.drop i) [mn p q,mx p q]
  | 0,i,h=>⟨-1,Ev.step (fun f=>slices_IndexFunc_int_int__impl_SquareWalk_1.l0.eq_2 ..) (ev_neg (by omega) (Ev.now _)),by rw [List.drop_eq_nil_of_le (by omega)];rfl⟩
  | d + 1,i,h=>by
    have hlt : i < G.length:=by omega
    have he:=entry1_ev p q (hs _ (List.getElem_mem hlt))
    obtain ⟨r,r1,r2⟩:=entry_index p q G hG hs d (i + 1) (by omega)
    rw [List.drop_eq_getElem_cons hlt]
    have go : ∀ {z : Int},Ev (fun k=>if (decide (inner G[i] = [mn p q,mx p q])) = true then some (i : Int) else slices_IndexFunc_int_int__impl_SquareWalk_1.l0 k G (G.length : Int) ((i + 1 : Nat) : Int) [p] [q]) z→Ev (fun k=>slices_IndexFunc_int_int__impl_SquareWalk_1.l0 k G (G.length : Int) (i : Int) [p] [q]) z:=fun {z} hz=>by
      refine Ev.step (fun f=>slices_IndexFunc_int_int__impl_SquareWalk_1.l0.eq_2 ..) (ev_pos (by omega) (ev_pos (by omega) (ev_pos (by omega) ?_)))
      rw [row_at hlt,wr (by omega) (by omega)]
      exact Ev.bind he hz
    by_cases e : inner G[i] = [mn p q,mx p q]
    · exact ⟨(i : Int),go (ev_pos (decide_eq_true e) (Ev.now _)),by unfold isIn;rw [List.any_cons,decide_eq_true e,Bool.true_or,decide_eq_true (by omega)]⟩
    · exact ⟨r,go (ev_neg (by rw [decide_eq_false e];decide) r1),by rw [r2];unfold isIn;rw [List.any_cons,decide_eq_false e,Bool.false_or]⟩
theorem spec_loop (a0 : Int) (L : List Int) (p q : Int) (G : List (List Int)) (hG : G.length ≤ 1000) (hs : ∀ s ∈ G,s.length = 2) (R : List Int × List Int × Bool) : ∀ d i : Nat,i + d = G.length →
    (isIn (G.drop i) [mn p q,mx p q] = true→Ev (fun k=>(spec_opWalk.f k a0 L [mn p q,mx p q]).bind fun bt=>some (bt.1,bt.2,true)) R)→(isIn (G.drop i) [mn p q,mx p q] = false→R = ([],[],false)) →
    Ev (fun k=>spec_SquareWalk.l0 k a0 L p q G (G.length : Int) (i : Int)) R
  | 0,i,h,h1,h2=>Ev.step (fun f=>spec_SquareWalk.l0.eq_2 ..) (ev_neg (by omega) (ev_eq (Ev.now _) (h2 (by rw [List.drop_eq_nil_of_le (by omega)];rfl)).symm))
  | d + 1,i,h,h1,h2=>by
    have hlt : i < G.length:=by omega
    have hl:=hs _ (List.getElem_mem hlt)
    rw [List.drop_eq_getElem_cons hlt] at h1 h2
    unfold isIn at h1 h2
    rw [List.any_cons] at h1 h2
    refine Ev.step (fun f=>spec_SquareWalk.l0.eq_2 ..) (ev_pos (by omega) (ev_pos (by omega) (ev_pos (by omega) ?_)))
    rw [row_at hlt,wr (by omega) (by omega)]
    refine ev_pos (by omega) (ev_pos (by omega) (ev_bind0 (show spec_doInner.f (rd G[i] 0) (rd G[i] 1) = some (inner G[i]) from doInner_eq _ _) (ev_bind0 (doInner_eq p q) (Ev.bind (same_ev (inner G[i]) [mn p q,mx p q] (by show 2 ≤ 1000000;decide)) ?_))))
    by_cases e : inner G[i] = [mn p q,mx p q]
    · exact ev_pos (decide_eq_true e) (ev_bind0 (doInner_eq p q) (h1 (by rw [decide_eq_true e,Bool.true_or])))
    · refine ev_neg (by rw [decide_eq_false e];decide) (spec_loop a0 L p q G hG hs R d (i + 1) (by omega) (fun z=>h1 ?_) (fun z=>h2 ?_))
      · rw [decide_eq_false e,Bool.false_or];exact z
      · rw [decide_eq_false e,Bool.false_or];exact z
/-- Are two labels of a cell opposite? -/
def prs (L : List Int) : List Int→Bool
  | []=>false
  | x :: t=>(t.any fun y=>decide (rd L x + rd L y = 0)) || prs L t
/-- What is told of a walk: no cell but the last one has opposite labels, and that one has them exactly if an edge is told. -/
structure STold (n : Nat) (L : List Int) (W La : List Int) : Prop where
  pos : 0 < W.length
  ok : ∀ i : Nat,i < W.length→Path.inC (cnr n) (rd W (i : Int))∧prs L (cl n (rd W (i : Int))) = (decide (0 < La.length) && decide (i + 1 = W.length))
  last : La = [] ∨ Opp n L La
section
variable {n : Nat} {L : List Int} (H : Home n L)
include H
theorem prs_none {c : Int} (hc : Path.inC (cnr n) c) (hf : fullAt n L c = false) : prs L (cl n c) = false:=by
  obtain ⟨x,y,z,hcl,h0,h1,h2,h3⟩:=tri_of (H.tri hc)
  have pos : 0 < rd L x∧0 < rd L y∧0 < rd L z:=by
    have : fullL L (cl n c) = false:=hf;rw [hcl] at this;exact Decidable.not_not.1 (of_decide_eq_false this)
  rw [hcl];simp only [prs,List.any_cons,List.any_nil,Bool.or_false];rw [decide_eq_false (show ¬ rd L x + rd L y = 0 by omega),decide_eq_false (show ¬ rd L x + rd L z = 0 by omega),decide_eq_false (show ¬ rd L y + rd L z = 0 by omega)];rfl
theorem prs_some {c : Int} (hc : Path.inC (cnr n) c) (hne : fe L (cl n c)≠[]) : prs L (cl n c) = true:=by
  obtain ⟨x,y,z,hcl,h0,h1,h2,h3⟩:=tri_of (H.tri hc);rw [hcl] at hne ⊢;have hfe : fe L [x,y,z] = if rd L x + rd L y = 0 then [x,y] else if rd L x + rd L z = 0 then [x,z] else if rd L y + rd L z = 0 then [y,z] else []:=rfl
  rw [hfe] at hne;simp only [prs,List.any_cons,List.any_nil,Bool.or_false];by_cases g1 : rd L x + rd L y = 0
  · rw [decide_eq_true g1];rfl
  · by_cases g2 : rd L x + rd L z = 0
    · rw [decide_eq_true g2,Bool.or_true];rfl
    · by_cases g3 : rd L y + rd L z = 0
      · rw [decide_eq_true g3,Bool.or_true]
      · rw [if_neg g1,if_neg g2,if_neg g3] at hne;exact absurd rfl hne
omit H in
theorem vis_at (c0 : Int) (d0 : List Int) (K i : Nat) (hi : i < K) : rd (vis n L c0 d0 K) (i : Int) = (at_ n L c0 d0 i).1:=by
  rw [rd_at (by rw [vis_len];exact hi)];unfold vis;rw [List.getElem_map,List.getElem_range]
theorem walk_sq (p q : Int) : ∃ r : List Int × List Int × Bool,r.1.length ≤ 1000∧r.2.1.length ≤ 2∧Ev (fun k=>impl_SquareWalk.f k (n : Int) L p q) r∧Ev (fun k=>spec_SquareWalk.f k (n : Int) L p q) r∧(r.2.2 = true→STold n L r.1 r.2.1):=by
  have hll:=H.lbl.len;have hpl:=H.side.pts_le;have hcl:=H.side.cnr_le;have h1 : Ev (fun k=>impl_areSigns.f k (n : Int) L) true:=by rw [← sgn_home H];exact labels_impl (n : Int) L (by omega)
  have h2 : Ev (fun k=>spec_opLabels.f k (n : Int) L) true:=by rw [← sgn_home H];exact labels_spec (n : Int) L (by omega)
  obtain ⟨r,r1,r2⟩:=entry_index p q (gates n L) (Nat.le_trans H.gates_len (by decide)) (fun s hs=>H.gate_len hs) (gates n L).length 0 (Nat.zero_add _);rw [List.drop_zero] at r2;have hsp:=fun R h h'=>spec_loop (n : Int) L p q (gates n L) (Nat.le_trans H.gates_len (by decide)) (fun s hs=>H.gate_len hs) R (gates n L).length 0 (Nat.zero_add _) h h'
  rw [List.drop_zero] at hsp;have hI : Ev (fun k=>slices_ContainsFunc_int_int__impl_SquareWalk_1.f k (gates n L) [p] [q]) (isIn (gates n L) [mn p q,mx p q]):=Ev.bind r1 (ev_eq (Ev.now _) r2);cases hin : isIn (gates n L) [mn p q,mx p q] with
  | false =>
    rw [hin] at hI;exact ⟨([],[],false),by simp,by simp,Ev.bind h1 (ev_pos rfl (Ev.bind H.entries_ev (Ev.bind hI (ev_neg (by decide) (Ev.now _))))),Ev.bind h2 (ev_pos rfl (Ev.bind H.doors_ev (hsp _ (fun z=>by rw [hin] at z;cases z) (fun _=>rfl)))),fun z=>(by cases z)⟩
  | true =>
    rw [hin] at hI;obtain ⟨s,hs,es⟩:=isIn_mem hin;obtain ⟨K,hK,hrm,he⟩:=H.enterW hs es;obtain ⟨_,hb0,_⟩:=H.begin hs
    have v0 : ∀ i,i < K→Path.inC (cnr n) (rd (vis n L (beyAt n (-1) (inner s)) (inner s) K) (i : Int))∧prs L (cl n (rd (vis n L (beyAt n (-1) (inner s)) (inner s) K) (i : Int))) = false:=fun i hi=>by
      rw [vis_at _ _ K i hi];exact ⟨(hrm i hi).1,prs_none H (hrm i hi).1 (hrm i hi).2⟩
    have hvl:=vis_len (n:=n) (L:=L) (d0:=inner s) (beyAt n (-1) (inner s)) K;rcases he with ⟨hk,hi,hp⟩|⟨hc,hf,hne,hi,hp⟩
    · have hKp : 0 < K:=by
        cases K with
        | zero=>exact absurd hb0 (by have : (at_ n L (beyAt n (-1) (inner s)) (inner s) 0).1 = beyAt n (-1) (inner s):=rfl;omega)
        | succ K=>exact Nat.succ_pos K
      refine ⟨(vis n L (beyAt n (-1) (inner s)) (inner s) K,[],true),by rw [hvl];omega,by simp,Ev.bind h1 (ev_pos rfl (Ev.bind H.entries_ev (Ev.bind hI (ev_pos rfl (Ev.bind H.side.cellsI (Ev.bind hi (ev_pos (show (-1 : Int) < 0 by decide) (Ev.now _)))))))),Ev.bind h2 (ev_pos rfl (Ev.bind H.doors_ev (hsp _ (fun _=>by rw [es];exact Ev.bind hp (Ev.now _)) (fun z=>by rw [hin] at z;cases z)))),fun _=>⟨by show 0 < (vis n L _ _ K).length;rw [hvl];exact hKp,fun i hi2=>?_,.inl rfl⟩⟩;have hi3 : i < K:=by rw [← hvl];exact hi2
      exact ⟨(v0 i hi3).1,(v0 i hi3).2⟩
    · generalize hcc : (at_ n L (beyAt n (-1) (inner s)) (inner s) K).1 = c at *
      have rg:=H.range hc;have ec : rd_L2 (cellsT n) c = cl n c:=rfl;have hfl : 0 < (fe L (cl n c)).length:=List.length_pos_iff.2 hne;have hwl : (vis n L (beyAt n (-1) (inner s)) (inner s) K ++ [c]).length = K + 1:=by rw [List.length_append,hvl];rfl
      refine ⟨(vis n L (beyAt n (-1) (inner s)) (inner s) K ++ [c],fe L (cl n c),true),by rw [hwl];omega,fe_len _,Ev.bind h1 (ev_pos rfl (Ev.bind H.entries_ev (Ev.bind hI (ev_pos rfl (Ev.bind H.side.cellsI (Ev.bind hi ?_)))))),Ev.bind h2 (ev_pos rfl (Ev.bind H.doors_ev (hsp _ (fun _=>by rw [es];exact Ev.bind hp (Ev.now _)) (fun z=>by rw [hin] at z;cases z)))),fun _=>⟨by show 0 < (vis n L _ _ K ++ [c]).length;rw [hwl];exact Nat.succ_pos K,fun i hi2=>?_,.inr (fe_opp H hc hne)⟩⟩
      · show Ev (fun k=>if c < 0 then _ else _) _
        refine ev_neg (by have:=rg.1;omega) (ev_pos rg.1 (ev_pos rg.2 ?_));rw [ec];exact Ev.bind (H.first_ev hc) (Ev.now _)
      · have hi3 : i < K + 1:=by rw [← hwl];exact hi2
        show Path.inC (cnr n) (rd (vis n L _ _ K ++ [c]) (i : Int))∧prs L (cl n (rd (vis n L _ _ K ++ [c]) (i : Int))) = (decide (0 < (fe L (cl n c)).length) && decide (i + 1 = (vis n L _ _ K ++ [c]).length));rw [hwl,decide_eq_true hfl,Bool.true_and];rcases Nat.lt_or_ge i K with g|g
        · have e : rd (vis n L (beyAt n (-1) (inner s)) (inner s) K ++ [c]) (i : Int) = rd (vis n L (beyAt n (-1) (inner s)) (inner s) K) (i : Int):=by
            rw [rd_at hi2,rd_at (by rw [hvl];exact g),List.getElem_append_left]
          rw [e,decide_eq_false (by omega)];exact v0 i g
        · have gi : i = K:=by omega
          subst gi
          have e : rd (vis n L (beyAt n (-1) (inner s)) (inner s) i ++ [c]) (i : Int) = c:=by
            rw [rd_at hi2,List.getElem_append_right (by rw [hvl];exact Nat.le_refl _)];simp
          rw [e,decide_eq_true rfl];exact ⟨hc,prs_some H hc hne⟩
end
end Go.Proofs.Ytlolkkfpfjlhmaa.QFnOppositeEdgesFound
/-! Opposite labels have an opposite edge, which a walk from a door of the border finds: for every input; there are no conditions. -/
namespace Go.Proofs.Ytlolkkfpfjlhmaa.Pure
open Go.RowKit Go.Proofs.YtlolkkfpfjlhmaaOwn Go.Proofs.Ytlolkkfpfjlhmaa.PFnOppositeEdgesFound Go.Proofs.YtlolkkfpfjlhmaaW.PrintWords Go.Proofs.YtlolkkfpfjlhmaaW.PrintLast Go.Proofs.YtlolkkfpfjlhmaaW.PrintMore Go.Proofs.Ytlolkkfpfjlhmaa.QFnOppositeEdgesFound
set_option linter.unusedVariables false
set_option linter.unusedSimpArgs false
set_option linter.unusedSectionVars false
set_option maxRecDepth 100000
theorem sameU_loop (a b : List Int) (hl : a.length = b.length) (hs : a.length ≤ 1000000) : ∀ d i : Nat,i + d = a.length→Ev (fun k=>laws_uSame.l0 k a b (a.length : Int) (i : Int)) (decide (a.drop i = b.drop i))
  | 0,i,h=>Ev.step (fun f=>laws_uSame.l0.eq_2 ..) (ev_neg (by omega) (ev_eq (Ev.now _) (by rw [List.drop_eq_nil_of_le (by omega),List.drop_eq_nil_of_le (by omega)];rfl)))
  | d + 1,i,h=>by
    have hd:=drop_eq hl (show i < a.length by omega)
    refine Ev.step (fun f=>laws_uSame.l0.eq_2 ..) (ev_pos (by omega) (ev_pos (by omega) (ev_pos (by omega) (ev_pos (by omega) ?_))))
    rw [wr (by omega) (by omega)]
    by_cases e : rd a (i : Int) = rd b (i : Int)
    · exact ev_pos e (ev_eq (sameU_loop a b hl hs d (i + 1) (by omega)) (by rw [decide_eq_decide];exact ⟨fun z=>hd.2 ⟨e,z⟩,fun z=>(hd.1 z).2⟩))
    · exact ev_neg e (ev_eq (Ev.now _) (by rw [decide_eq_false (fun z=>e (hd.1 z).1)]))
theorem sameU_ev (a b : List Int) (hs : a.length ≤ 1000000) : Ev (fun k=>laws_uSame.f k a b) (decide (a = b)):=by
  by_cases hl : a.length = b.length
  · have:=sameU_loop a b hl hs a.length 0 (by omega)
    rw [List.drop_zero,List.drop_zero] at this;exact ev_pos (by omega) this
  · exact ev_neg (by omega) (ev_eq (Ev.now _) (decide_eq_false (fun z=>hl (by rw [z]))).symm)
theorem selfU (a : List Int) (hs : a.length ≤ 1000000) : Ev (fun k=>laws_uSame.f k a a) true:=ev_eq (sameU_ev a a hs) (decide_eq_true rfl)
theorem rows_loop (A : List (List Int)) (ha : A.length ≤ 100000) (he : ∀ r ∈ A,r.length ≤ 10000) : ∀ d i : Nat,i + d = A.length→Ev (fun f=>laws_uSameRows.l0 f A A (A.length : Int) (i : Int)) true
  | 0,i,h=>Ev.step (fun f=>laws_uSameRows.l0.eq_2 ..) (ev_neg (by omega) (Ev.now _))
  | d + 1,i,h=>by
    have hlt : i < A.length:=by omega
    have hr:=he _ (List.getElem_mem hlt)
    refine Ev.step (fun f=>laws_uSameRows.l0.eq_2 ..) (ev_pos (by omega) (ev_pos (by omega) (ev_pos (by omega) (ev_pos (by omega) ?_))))
    rw [row_at hlt,wr (show -9223372036854775808 ≤ (i : Int) + 1 by omega) (by omega)]
    exact Ev.bind (selfU _ (by omega)) (ev_pos rfl (rows_loop A ha he d (i + 1) (by omega)))
theorem rows_ev (A : List (List Int)) (ha : A.length ≤ 100000) (he : ∀ r ∈ A,r.length ≤ 10000) : Ev (fun f=>laws_uSameRows.f f A A) true:=ev_pos rfl (rows_loop A ha he A.length 0 (by omega))
/-! ### the cells of a walk -/
section
variable {n : Nat} {L : List Int} (H : Home n L)
include H
theorem l3_loop (W La : List Int) (C : List (List Int)) (kk c x : Int) (hx : 0 ≤ x∧x < (pts n : Int)) (lw k2 : Int) (T : List Int) (lt a : Int) (D : List Int) (hD : ∀ y ∈ D,0 ≤ y∧y < (pts n : Int)) (hDl : D.length ≤ 1000) (r : Bool) : ∀ (d t : Nat) (o : Bool),t + d = D.length →
    Ev (fun k=>laws_FnOppositeEdgesFound.l2 k L W La C kk c (o || (D.drop t).any (fun y=>decide (rd L x + rd L y = 0))) W lw k2 T lt (wrap64 (a + 1))) r→Ev (fun k=>laws_FnOppositeEdgesFound.l3 k L W La C kk c o x W lw k2 T lt a D (D.length : Int) (t : Int)) r
  | 0,t,o,h,hr=>by
    rw [List.drop_eq_nil_of_le (by omega),List.any_nil,Bool.or_false] at hr
    exact Ev.step (fun f=>laws_FnOppositeEdgesFound.l3.eq_2 ..) (ev_neg (by omega) hr)
  | d + 1,t,o,h,hr=>by
    have hlt : t < D.length:=by omega
    have hy:=hD _ (List.getElem_mem hlt)
    have r1:=H.lbl.ok x hx.1 hx.2
    have r2:=H.lbl.ok D[t] hy.1 hy.2
    have hll:=H.lbl.len
    have w1 : wrap64 ((t : Int) + 1) = ((t + 1 : Nat) : Int):=by rw [wr (by omega) (by omega)];omega
    rw [List.drop_eq_getElem_cons hlt,List.any_cons] at hr
    refine Ev.step (fun f=>laws_FnOppositeEdgesFound.l3.eq_2 ..) (ev_pos (by omega) (ev_pos (by omega) (ev_pos (by omega) ?_)))
    rw [w1,rd_at hlt]
    cases o with
    | true =>
      rw [Bool.true_or] at hr
      exact ev_pos rfl (l3_loop W La C kk c x hx lw k2 T lt a D hD hDl r d (t + 1) true (by omega) (by rw [Bool.true_or];exact hr))
    | false =>
      rw [Bool.false_or] at hr
      refine ev_neg Bool.false_ne_true (ev_pos hx.1 (ev_pos (by omega) (ev_pos hy.1 (ev_pos (by omega) ?_))))
      rw [wr (x:=rd L x + rd L D[t]) (by omega) (by omega),show (rd L x + rd L D[t] == 0) = decide (rd L x + rd L D[t] = 0) from rfl]
      exact l3_loop W La C kk c x hx lw k2 T lt a D hD hDl r d (t + 1) _ (by omega) hr
theorem l2_loop (W La : List Int) (C : List (List Int)) (kk c : Int) (hc : 0 ≤ c∧c < (C.length : Int)) (lw k2 : Int) (T : List Int) (hT : ∀ y ∈ T,0 ≤ y∧y < (pts n : Int)) (hTl : T.length ≤ 1000) (hCT : rd_L2 C c = T) (r : Bool) : ∀ (d a : Nat) (o : Bool),a + d = T.length →
    Ev (fun k=>laws_FnOppositeEdgesFound.l2 k L W La C kk c (o || prs L (T.drop a)) W lw k2 T (T.length : Int) (T.length : Int)) r→Ev (fun k=>laws_FnOppositeEdgesFound.l2 k L W La C kk c o W lw k2 T (T.length : Int) (a : Int)) r
  | 0,a,o,h,hr=>by
    rw [List.drop_eq_nil_of_le (by omega),prs,Bool.or_false] at hr
    rw [show a = T.length from h]
    exact hr
  | d + 1,a,o,h,hr=>by
    have hlt : a < T.length:=by omega
    have hx:=hT _ (List.getElem_mem hlt)
    have w1 : wrap64 ((a : Int) + 1) = ((a + 1 : Nat) : Int):=by rw [wr (by omega) (by omega)];omega
    rw [List.drop_eq_getElem_cons hlt,prs,← Bool.or_assoc] at hr
    refine Ev.step (fun f=>laws_FnOppositeEdgesFound.l2.eq_2 ..) (ev_pos (by omega) (ev_pos (by omega) (ev_pos (by omega) (ev_pos hc.1 (ev_pos hc.2 ?_)))))
    rw [w1,hCT,Int.toNat_natCast]
    refine ev_pos (by omega) (ev_pos (by omega) (ev_bind0 rfl ?_))
    rw [rd_at hlt]
    refine l3_loop H W La C kk c T[a] hx lw k2 T (T.length : Int) (a : Int) (T.drop (a + 1)) (fun y hy=>hT y (List.mem_of_mem_drop hy)) (by rw [List.length_drop];omega) r (T.drop (a + 1)).length 0 o (Nat.zero_add _) ?_
    rw [List.drop_zero,w1]
    exact l2_loop W La C kk c hc lw k2 T hT hTl hCT r d (a + 1) _ (by omega) hr
theorem l1_loop {W La : List Int} (hT : STold n L W La) (hW : W.length ≤ 1000) : ∀ d i : Nat,i + d = W.length→Ev (fun k=>laws_FnOppositeEdgesFound.l1 k L W La (cellsT n) W (W.length : Int) (i : Int)) true
  | 0,i,h=>by
    have hll:=H.lbl.len
    refine Ev.step (fun f=>laws_FnOppositeEdgesFound.l1.eq_2 ..) (ev_neg (by omega) ?_)
    rcases hT.last with e|⟨x,y,e,h0,h1,h2,h3,h4⟩
    · subst e
      exact ev_neg (by decide) (Ev.now _)
    · subst e
      have e0 : rd [x,y] 0 = x:=rfl
      have e1 : rd [x,y] 1 = y:=rfl
      rw [e0,e1,h4]
      exact ev_pos rfl (ev_pos (show (0 : Int) < 2 by decide) (ev_pos h0 (ev_pos (by omega) (ev_pos (show (1 : Int) < 2 by decide) (ev_pos (by omega) (ev_pos (by omega) (ev_pos (by decide +kernel) (Ev.now _))))))))
  | d + 1,i,h=>by
    have hlt : i < W.length:=by omega
    obtain ⟨hin,hp⟩:=hT.ok i hlt
    have rg:=H.range hin
    have tr:=H.tri hin
    have g0:=tr.lo
    have g1:=tr.ab
    have g2:=tr.bc
    have g3:=tr.hi
    have w1 : wrap64 ((i : Int) + 1) = ((i + 1 : Nat) : Int):=by rw [wr (by omega) (by omega)];omega
    have ih:=l1_loop hT hW d (i + 1) (by omega)
    have hl3:=tr.len
    refine Ev.step (fun f=>laws_FnOppositeEdgesFound.l1.eq_2 ..) (ev_pos (by omega) (ev_pos (by omega) (ev_pos (by omega) (ev_pos rg.1 (ev_pos rg.2 ?_)))))
    rw [show rd_L2 (cellsT n) (rd W (i : Int)) = cl n (rd W (i : Int)) from rfl]
    refine l2_loop H W La (cellsT n) (i : Int) (rd W (i : Int)) rg (W.length : Int) (i : Int) (cl n (rd W (i : Int))) (fun y hy=>?_) (by omega) rfl true (cl n (rd W (i : Int))).length 0 false (Nat.zero_add _) ?_
    · obtain ⟨x,y',z,e,q0,q1,q2,q3⟩:=tri_of tr
      rw [e] at hy
      simp only [List.mem_cons,List.not_mem_nil,or_false] at hy
      omega
    · rw [List.drop_zero,Bool.false_or,hp]
      refine Ev.step (fun f=>laws_FnOppositeEdgesFound.l2.eq_2 ..) (ev_neg (by omega) ?_)
      by_cases hl : (La.length : Int) > 0
      · refine ev_pos hl (ev_neg ?_ (by rw [w1];exact ih))
        have e : (decide (0 < La.length) && decide (i + 1 = W.length)) = ((i : Int) == wrap64 ((W.length : Int) - 1)):=by
          rw [decide_eq_true (show 0 < La.length by omega),Bool.true_and,wr (by omega) (by omega),show ((i : Int) == (W.length : Int) - 1) = decide ((i : Int) = (W.length : Int) - 1) from rfl,decide_eq_decide];omega
        rw [e,bne_self_eq_false];exact Bool.false_ne_true
      · refine ev_neg hl (ev_neg ?_ (by rw [w1];exact ih))
        rw [decide_eq_false (show ¬ 0 < La.length by omega),Bool.false_and];decide
theorem cells_ev : Ev (fun k=>impl_SquareCells.f k (n : Int)) (cellsT n,true):=by
  have hlo:=H.side.lo;have hhi:=H.side.hi;refine ev_bind0 (reach_impl (n : Int)) ?_;rw [decide_eq_true (show 1 ≤ (n : Int)∧(n : Int) ≤ 4 by omega)];exact ev_pos rfl (Ev.bind H.side.cellsI (Ev.now _))
end
/-! ### the second half: walks -/
theorem j2_ev {l1 : List Int} (u1 : U8 l1) : Ev (fun k=>laws_FnOppositeEdgesFound.j2 k l1) true:=by
  obtain ⟨⟨a0,L,p,q⟩,hl,hd⟩:=draw_walk u1;have hl : L.length ≤ 25:=hl;have h1:=labels_impl a0 L (by omega);have h2:=labels_spec a0 L (by omega);cases hk : sgnB a0 L with
  | false =>
    rw [hk] at h1 h2;have w1 : Ev (fun k=>impl_SquareWalk.f k a0 L p q) ([],[],false):=Ev.bind h1 (ev_neg (by decide) (Ev.now _));have w2 : Ev (fun k=>spec_SquareWalk.f k a0 L p q) ([],[],false):=Ev.bind h2 (ev_neg (by decide) (Ev.now _));have d1 : Ev (fun k=>impl_SquareDoors.f k a0 L) ([],false):=Ev.bind h1 (ev_neg (by decide) (Ev.now _));have d2 : Ev (fun k=>spec_SquareDoors.f k a0 L) ([],false):=Ev.bind h2 (ev_neg (by decide) (Ev.now _));have s0:=selfU [] (by decide);have s1:=rows_ev [] (by decide) (fun r h=>(by cases h))
    exact Ev.step (fun f => laws_FnOppositeEdgesFound.j2.eq_2 ..) (Ev.bind hd (Ev.bind w1 (Ev.bind w2 (Ev.bind d1 (Ev.bind d2 (ev_neg Bool.false_ne_true (Ev.bind s0 (ev_pos rfl (Ev.bind s0 (ev_pos rfl (ev_neg Bool.false_ne_true (Ev.bind s1 (ev_pos rfl (ev_neg Bool.false_ne_true
      (Ev.step (fun f=>laws_FnOppositeEdgesFound.j3.eq_2 ..) (ev_neg Bool.false_ne_true (ev_neg Bool.false_ne_true (Ev.now _))))))))))))))))))
  | true =>
    rw [hk] at h1 h2;obtain ⟨n,e,H⟩:=home_of hk;subst e;obtain ⟨⟨W,La,b⟩,b1,b2,w1,w2,hT⟩:=walk_sq H p q;have b1 : W.length ≤ 1000:=b1;have b2 : La.length ≤ 2:=b2;have d1 : Ev (fun k=>impl_SquareDoors.f k (n : Int) L) (gates n L,true):=Ev.bind h1 (ev_pos rfl (Ev.bind H.entries_ev (Ev.now _)));have d2 : Ev (fun k=>spec_SquareDoors.f k (n : Int) L) (gates n L,true):=Ev.bind h2 (ev_pos rfl (Ev.bind H.doors_ev (Ev.now _)));have s0:=selfU W (by omega);have s2:=selfU La (by omega);have hG:=H.gates_len;have s1:=rows_ev (gates n L) (by omega) (fun r h=>by rw [H.gate_len h];decide);have nb : ∀ c : Bool,¬ ((c != c) = true):=fun c=>by rw [bne_self_eq_false];exact Bool.false_ne_true
    refine Ev.step (fun f=>laws_FnOppositeEdgesFound.j2.eq_2 ..) (Ev.bind hd (Ev.bind w1 (Ev.bind w2 (Ev.bind d1 (Ev.bind d2 (ev_neg (nb b) (Ev.bind s0 (ev_pos rfl (Ev.bind s2 (ev_pos rfl (ev_neg Bool.false_ne_true (Ev.bind s1 (ev_pos rfl ?_)))))))))))));cases b with
    | false=>exact ev_neg Bool.false_ne_true (Ev.step (fun f=>laws_FnOppositeEdgesFound.j3.eq_2 ..) (ev_neg Bool.false_ne_true (ev_neg Bool.false_ne_true (Ev.now _))))
    | true =>
      have hT:=hT rfl;have hp : 0 < W.length:=hT.pos;refine ev_pos rfl (Ev.step (fun f=>laws_FnOppositeEdgesFound.j3.eq_2 ..) (ev_neg Bool.false_ne_true (ev_pos rfl (Ev.bind (cells_ev H) (ev_pos rfl (Ev.step (fun f=>laws_FnOppositeEdgesFound.j4.eq_2 ..) (ev_neg ?_ (l1_loop H hT b1 W.length 0 (Nat.zero_add _)))))))));rw [show ((W.length : Int) == 0) = decide ((W.length : Int) = 0) from rfl,decide_eq_false (by omega)];exact Bool.false_ne_true
/-- The edge that is found is one of the edges. -/
theorem found_loop {l1 : List Int} (u1 : U8 l1) (e : List Int) (E : List (List Int)) (hE : E.length ≤ 100000) (h2 : ∀ x ∈ E,x.length = 2) : ∀ (d t : Nat) (o : Bool),t + d = E.length→(o = true ∨ e ∈ E.drop t)→Ev (fun k=>laws_FnOppositeEdgesFound.l0 k l1 e o E (E.length : Int) (t : Int)) true
  | 0,t,o,h,ho=>by
    have ho : o = true:=by
      rcases ho with z|z
      · exact z
      · rw [List.drop_eq_nil_of_le (by omega)] at z;cases z
    subst ho;exact Ev.step (fun f=>laws_FnOppositeEdgesFound.l0.eq_2 ..) (ev_neg (by omega) (ev_pos rfl (j2_ev u1)))
  | d + 1,t,o,h,ho=>by
    have hlt : t < E.length:=by omega
    have w1 : wrap64 ((t : Int) + 1) = ((t + 1 : Nat) : Int):=by rw [wr (by omega) (by omega)];omega
    have hl:=h2 _ (List.getElem_mem hlt);refine Ev.step (fun f=>laws_FnOppositeEdgesFound.l0.eq_2 ..) (ev_pos (by omega) (ev_pos (by omega) (ev_pos (by omega) ?_)));rw [w1];cases o with
    | true=>exact ev_pos rfl (found_loop u1 e E hE h2 d (t + 1) true (by omega) (.inl rfl))
    | false =>
      rw [row_at hlt];refine ev_neg Bool.false_ne_true (Ev.bind (sameU_ev E[t] e (by omega)) (found_loop u1 e E hE h2 d (t + 1) _ (by omega) ?_));rcases ho with z|z
      · cases z
      · rw [List.drop_eq_getElem_cons hlt] at z
        rcases List.mem_cons.1 z with g|g
        · exact .inl (decide_eq_true g.symm)
        · exact .inr g
theorem FnOppositeEdgesFound : laws_FnOppositeEdgesFound.Pure:=by
  intro l0 l1 _ _ u0 _ _ u1;apply Ev.rounds
  obtain ⟨b,hb⟩ : ∃ b,laws_big.f l0 l1 = some b:=by
    unfold laws_big.f;split <;> exact ⟨_,rfl⟩
  refine ev_bind0 hb ?_;cases b with
  | true=>exact ev_pos rfl (Ev.now _)
  | false =>
    refine ev_neg (by decide) ?_;obtain ⟨⟨a0,L⟩,hl,hd⟩:=draw_find u0;have hl : L.length ≤ 25:=hl;have h1:=labels_impl a0 L (by omega);have h2:=labels_spec a0 L (by omega);have nb : ∀ c : Bool,¬ ((c != c) = true):=fun c=>by rw [bne_self_eq_false];exact Bool.false_ne_true
    cases hk : sgnB a0 L with
    | false =>
      rw [hk] at h1 h2;have hI : Ev (fun k=>impl_areOpposite.f k a0 L) false:=Ev.bind h1 (ev_neg (by decide) (Ev.now _));have hS : Ev (fun k=>spec_opIs.f k a0 L) false:=Ev.bind h2 (ev_neg (by decide) (Ev.now _));have f1 : Ev (fun k=>impl_FindOpposite.f k a0 L) ([],false):=Ev.bind hI (ev_neg (by decide) (Ev.now _));have s0:=selfU [] (by decide);have s1:=rows_ev [] (by decide) (fun r h=>(by cases h));have e1 : Ev (fun k=>impl_OppositeEdges.f k a0 L) ([],false):=Ev.bind h1 (ev_neg (by decide) (Ev.now _));have e2 : Ev (fun k=>spec_OppositeEdges.f k a0 L) ([],false):=Ev.bind h2 (ev_neg (by decide) (Ev.now _))
      obtain ⟨rc,f2,g1,g2⟩ : ∃ rc : Bool,Ev (fun k=>spec_FindOpposite.f k a0 L) ([],false)∧Ev (fun k=>impl_AreOpposite.f k a0 L) (false,rc)∧Ev (fun k=>spec_AreOpposite.f k a0 L) (false,rc):=by
        by_cases hr : 1 ≤ a0∧a0 ≤ 4
        · refine ⟨true,?_,?_,?_⟩
          · refine ev_bind0 (reach_spec a0) ?_
            rw [decide_eq_true hr];exact ev_pos rfl (Ev.bind hS (Ev.step (fun f=>spec_FindOpposite.j0.eq_2 ..) (ev_pos rfl (Ev.now _))))
          · refine Ev.bind hI (ev_bind0 (reach_impl a0) ?_)
            rw [decide_eq_true hr];exact Ev.now _
          · refine ev_bind0 (reach_spec a0) ?_
            rw [decide_eq_true hr];exact ev_pos rfl (Ev.bind hS (Ev.now _))
        · refine ⟨false,?_,?_,?_⟩
          · refine ev_bind0 (reach_spec a0) ?_
            rw [decide_eq_false hr];exact ev_neg (by decide) (Ev.step (fun f=>spec_FindOpposite.j0.eq_2 ..) (ev_pos rfl (Ev.now _)))
          · refine Ev.bind hI (ev_bind0 (reach_impl a0) ?_)
            rw [decide_eq_false hr];exact Ev.now _
          · refine ev_bind0 (reach_spec a0) ?_
            rw [decide_eq_false hr];exact ev_neg (by decide) (Ev.now _)
      exact Ev.bind hd (Ev.bind f1 (Ev.bind f2 (Ev.bind g1 (Ev.bind g2 (Ev.bind e1 (Ev.bind e2 (ev_neg Bool.false_ne_true (Ev.bind s0 (ev_pos rfl (ev_neg (nb rc) (ev_neg Bool.false_ne_true (ev_neg Bool.false_ne_true (Ev.bind s1 (ev_pos rfl
          (Ev.step (fun f=>laws_FnOppositeEdgesFound.j0.eq_2 ..) (ev_neg Bool.false_ne_true (ev_neg Bool.false_ne_true (j2_ev u1))))))))))))))))))
    | true =>
      rw [hk] at h1 h2;obtain ⟨n,e,H⟩:=home_of hk;subst e;have hll:=H.lbl.len;have hpl:=H.side.pts_le;have hr : 1 ≤ (n : Int)∧(n : Int) ≤ 4:=by have:=H.side.lo;have:=H.side.hi;omega
      obtain ⟨⟨R,b⟩,r0,r1,r2,r3,r4,r5⟩:=find_op H;have r0 : R.length ≤ 2:=r0
      have g1 : Ev (fun k=>impl_AreOpposite.f k (n : Int) L) (b,true):=by
        refine Ev.bind r3 (ev_bind0 (reach_impl (n : Int)) ?_);rw [decide_eq_true hr];exact Ev.now _
      have g2 : Ev (fun k=>spec_AreOpposite.f k (n : Int) L) (b,true):=by
        refine ev_bind0 (reach_spec (n : Int)) ?_;rw [decide_eq_true hr];exact ev_pos rfl (Ev.bind r4 (Ev.now _))
      have x1:=edgesI H (pts n) 0 [] (Nat.zero_add _) (Nat.zero_le _);have x2:=edgesS H (pts n) 0 [] (Nat.zero_add _) (Nat.zero_le _);rw [List.nil_append] at x1 x2;have e1 : Ev (fun k=>impl_OppositeEdges.f k (n : Int) L) (oeAll n L (pts n) 0,true):=Ev.bind h1 (ev_pos rfl x1);have e2 : Ev (fun k=>spec_OppositeEdges.f k (n : Int) L) (oeAll n L (pts n) 0,true):=Ev.bind h2 (ev_pos rfl x2)
      have hE : (oeAll n L (pts n) 0).length ≤ 100000:=by
        have:=oeAll_len n L (pts n) 0;have:=Nat.mul_le_mul hpl hpl;omega
      have h2e:=oeAll_two n L (pts n) 0;have s0:=selfU R (by omega);have s1:=rows_ev (oeAll n L (pts n) 0) hE (fun r h=>by rw [h2e r h];decide);refine Ev.bind hd (Ev.bind r1 (Ev.bind r2 (Ev.bind g1 (Ev.bind g2 (Ev.bind e1 (Ev.bind e2 (ev_neg (nb b) (Ev.bind s0 (ev_pos rfl (ev_neg Bool.false_ne_true (ev_neg (nb b) (ev_neg Bool.false_ne_true (Ev.bind s1 (ev_pos rfl (Ev.step (fun f=>laws_FnOppositeEdgesFound.j0.eq_2 ..) (ev_neg (nb b) ?_))))))))))))))));cases b with
      | false=>exact ev_neg Bool.false_ne_true (j2_ev u1)
      | true=>exact ev_pos rfl (found_loop u1 R _ hE h2e _ 0 false (Nat.zero_add _) (.inr (by rw [List.drop_zero];exact opp_mem (r5 rfl))))
end Go.Proofs.Ytlolkkfpfjlhmaa.Pure
