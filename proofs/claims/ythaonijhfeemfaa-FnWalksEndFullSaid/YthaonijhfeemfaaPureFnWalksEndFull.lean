/- The law's text, and what it rests on, in one. -/
import Derived.Test.YthaonijhfeemfaaPFnWalksEndFullx
import Derived.Laws.Bits64b
namespace Go.Proofs.Ythaonijhfeemfaa.gF
open Go.RowKit Go.Proofs.Ythaonijhfeemfaa.dL Go.Proofs.YthaonijhfeemfaaW.bU Go.Proofs.YthaonijhfeemfaaW.fB Go.Proofs.YthaonijhfeemfaaW.iw
set_option linter.unusedVariables false
set_option linter.unusedSimpArgs false
theorem wr {x : Int} (h : -9223372036854775808 ≤ x) (h' : x ≤ 9223372036854775807) : wrap64 x = x:=by unfold wrap64;omega
theorem jD {α : Type} {g : Nat→Option α} {r s : α} (h : Ev g r) (e : r = s) : Ev g s:=e ▸ h
theorem ao2 {α : Type} {o : Option α} {r : α} (h : o = some r) : Ev (fun _=>o) r:=⟨0,fun _ _=>h⟩
theorem aCa {α : Type} {g : Nat→Option α} {r s : α} (h : Ev g r) (h' : Ev g s) : r = s:=by
  obtain ⟨K,h⟩:=h;obtain ⟨K',h'⟩:=h';have a:=h (max K K') (by omega);have b:=h' (max K K') (by omega);rw [a] at b;exact Option.some.inj b
theorem dU {α β : Type} {o : Option α} {f : Nat→α→Option β} {a : α} {r : β} (h : o = some a) (k : Ev (fun n=>f n a) r) : Ev (fun n=>o.bind (f n)) r :=
  Ev.bind (g:=fun _=>o) (ao2 h) k
theorem au {α : Type} {c : Prop} [Decidable c] {f g : Nat→Option α} {r : α} (h : c) (k : Ev f r) : Ev (fun n=>if c then f n else g n) r:=Ev.congr (fun _=>if_pos h) k
theorem aK {α : Type} {c : Prop} [Decidable c] {f g : Nat→Option α} {r : α} (h : ¬ c) (k : Ev g r) : Ev (fun n=>if c then f n else g n) r:=Ev.congr (fun _=>if_neg h) k
theorem aCb {l : List Int} {i : Int} (h0 : 0 ≤ i) (h : i < l.length) : l[i.toNat]? = some (rd l i):=by
  unfold rd;rw [List.getD_eq_getElem?_getD,List.getElem?_eq_getElem (by omega)];rfl
theorem asy (l : List Int) (i : Nat) : rd l (i : Int) = l.getD i 0:=rfl
theorem aCc (x : Int) : rd [x] 0 = x:=rfl
end Go.Proofs.Ythaonijhfeemfaa.gF
namespace Go.Proofs.Ythaonijhfeemfaa.gF
open Go.RowKit Go.Proofs.Ythaonijhfeemfaa.dL Go.Proofs.YthaonijhfeemfaaW.bU Go.Proofs.YthaonijhfeemfaaW.fB Go.Proofs.YthaonijhfeemfaaW.iw
set_option linter.unusedVariables false
set_option linter.unusedSimpArgs false
def U8 (l : List Int) : Prop:=∀ x ∈ l,(Lit.int .u8 x).wf = true
theorem awp {l : List Int} (h : U8 l) (i : Int) : 0 ≤ rd l i∧rd l i ≤ 255:=by
  unfold rd;rw [List.getD_eq_getElem?_getD];cases hc : l[i.toNat]? with
  | none=>exact ⟨Int.le_refl 0,by decide⟩
  | some x =>
    have h1:=h x (List.mem_of_getElem? hc);have h2:=Bool.and_eq_true_iff.1 (show (decide (IntKind.u8.min ≤ x) && decide (x ≤ IntKind.u8.max)) = true from h1);have h3 : (0 : Int) ≤ x:=of_decide_eq_true h2.1;have h4 : x ≤ 255:=of_decide_eq_true h2.2;exact ⟨h3,h4⟩
theorem asz {x : Int} (h0 : 0 ≤ x) (h1 : x < 18446744073709551616) : 0 ≤ Go.bits .and .u64 x 255∧Go.bits .and .u64 x 255 ≤ 255:=by
  obtain ⟨n,e⟩:=Int.eq_ofNat_of_zero_le h0;subst e;have h2:=bits_and_u64_nat n 255 (by omega) (by omega);rw [show ((255 : Nat) : Int) = 255 from rfl] at h2;rw [h2];have:=@Nat.and_le_right n 255;omega
theorem ajh {l : List Int} (h : U8 l) {a : Int} (s : Int) (h0 : 0 ≤ a) (h1 : a < 4611686018427387904) : ∃ v s',yX.f l a s = some (v,a + 1,s')∧0 ≤ v∧v ≤ 255:=by
  unfold yX.f;have hw : ∀ x : Int,0 ≤ IntKind.u64.wrap x∧IntKind.u64.wrap x < 18446744073709551616:=fun x=>by rw [IntKind.wrap_u64];omega
  have hv : ∀ x : Int,0 ≤ wrap64 (Go.bits .and .u64 (IntKind.u64.wrap x / 1099511627776) 255)∧wrap64 (Go.bits .and .u64 (IntKind.u64.wrap x / 1099511627776) 255) ≤ 255:=fun x=>by
    have:=hw x;have h2:=asz (x:=IntKind.u64.wrap x / 1099511627776) (by omega) (by omega);rw [wr (by omega) (by omega)];exact h2
  rw [wr (show -9223372036854775808 ≤ a + 1 by omega) (by omega)];by_cases hl : a < (l.length : Int)
  · have hr:=awp h a
    rw [if_pos hl,if_pos h0,wr (show -9223372036854775808 ≤ rd l a by omega) (by omega),if_pos (by omega)];exact ⟨_,_,rfl,hr.1,hr.2⟩
  · rw [if_neg hl,if_neg (by omega)]
    exact ⟨_,_,rfl,hv _⟩
theorem vY {l : List Int} (h : U8 l) {a : Int} (s n : Int) (h0 : 0 ≤ a) (h1 : a < 4611686018427387900) : ∃ v a' s',fQ.f l a s n = some (v,a',s')∧0 ≤ v∧(v < n ∨ v = 0)∧a ≤ a'∧a' ≤ a + 2:=by
  unfold fQ.f;by_cases hn : n ≤ 1
  · rw [if_pos hn]
    exact ⟨_,_,_,rfl,Int.le_refl 0,.inr rfl,by omega,by omega⟩
  · obtain ⟨v,s1,e1,v0,v1⟩:=ajh h s h0 (by omega)
    rw [if_neg hn,e1,Option.bind_some];by_cases h2 : n > 200
    · obtain ⟨v',s2,e2,w0,w1⟩:=ajh h s1 (show 0 ≤ a + 1 by omega) (by omega)
      rw [if_pos h2];dsimp only;rw [e2,Option.bind_some,if_neg (by omega)];dsimp only;rw [wr (show -9223372036854775808 ≤ v * 256 by omega) (by omega),wr (show -9223372036854775808 ≤ v * 256 + v' by omega) (by omega)];exact ⟨_,_,_,rfl,Int.tmod_nonneg _ (by omega),.inl (Int.tmod_lt_of_pos _ (by omega)),by omega,by omega⟩
    · rw [if_neg h2,if_neg (by omega)]
      exact ⟨_,_,_,rfl,Int.tmod_nonneg _ v0,.inl (Int.tmod_lt_of_pos _ (by omega)),by dsimp only;omega,by dsimp only;omega⟩
theorem Zv {l : List Int} (h : U8 l) {a : Int} (s : Int) (L : List Int) (hL : 0 < L.length) (h0 : 0 ≤ a) (h1 : a < 4611686018427387900) : ∃ v a' s',rH.f l a s L = some (v,a',s')∧v ∈ L∧a ≤ a'∧a' ≤ a + 2:=by
  unfold rH.f;obtain ⟨v,a',s',e,v0,v1,h2,h3⟩:=vY h s (L.length : Int) h0 h1;rw [e,Option.bind_some];dsimp only;rw [if_pos v0,if_pos (by omega)];refine ⟨_,_,_,rfl,?_,h2,h3⟩;unfold rd;rw [List.getD_eq_getElem?_getD,List.getElem?_eq_getElem (by omega)];exact List.getElem_mem _
end Go.Proofs.Ythaonijhfeemfaa.gF
namespace Go.Proofs.Ythaonijhfeemfaa.gF
open Go.RowKit Go.Proofs.YthaonijhfeemfaaOwn Go.Proofs.Ythaonijhfeemfaa.dL Go.Proofs.YthaonijhfeemfaaW.bU Go.Proofs.YthaonijhfeemfaaW.fB Go.Proofs.YthaonijhfeemfaaW.iw
set_option linter.unusedVariables false
set_option linter.unusedSimpArgs false
set_option maxRecDepth 100000
theorem abJ {l : List Int} (h : U8 l) {a : Int} (s n : Int) (h0 : 0 ≤ a) (h1 : a < 4611686018427387900) : ∃ b a' s',tK.f l a s n = some (b,a',s')∧a ≤ a'∧a' ≤ a + 2:=by
  obtain ⟨v,a',s',e,_,_,h2,h3⟩:=vY h s n h0 h1;exact ⟨v == 0,a',s',by unfold tK.f;rw [e];rfl,h2,h3⟩
end Go.Proofs.Ythaonijhfeemfaa.gF
namespace Go.Proofs.Ythaonijhfeemfaa.gF
open Go.RowKit Go.Proofs.Ythaonijhfeemfaa.dL Go.Proofs.YthaonijhfeemfaaW.bU Go.Proofs.YthaonijhfeemfaaW.fB Go.Proofs.YthaonijhfeemfaaW.iw
set_option linter.unusedVariables false
set_option linter.unusedSimpArgs false
set_option maxRecDepth 100000
abbrev Pt:=S86
abbrev rdP : List Pt→Int→Pt:=aI
def cu (n : Nat) : List Pt:=(List.range (n + 1)).flatMap fun (r : Nat)=>(List.range (r + 1)).map fun (c : Nat)=>(⟨(n : Int) - r,(r : Int) - c,(c : Int)⟩ : Pt)
def many (n : Nat) : Nat:=(n + 1) * (n + 2) / 2
def Wo (p q : Pt) : Bool :=
  let a:=mx (p.f0 - q.f0) (q.f0 - p.f0)
  let b:=mx (p.f1 - q.f1) (q.f1 - p.f1)
  let c:=mx (p.f2 - q.f2) (q.f2 - p.f2)
  decide (a + b + c = 2) && decide (mx (mx (mx 0 a) b) c = 1)
def Small (p : Pt) : Prop:=(-100 ≤ p.f0∧p.f0 ≤ 100)∧(-100 ≤ p.f1∧p.f1 ≤ 100)∧(-100 ≤ p.f2∧p.f2 ≤ 100)
theorem NK (x y : Int) (hx : -100 ≤ x∧x ≤ 100) (hy : -100 ≤ y∧y ≤ 100) : 0 ≤ mx (x - y) (y - x)∧mx (x - y) (y - x) ≤ 200:=by unfold mx;split <;> omega
theorem u1 : wrap64 1 = 1:=wr (by omega) (by omega)
theorem u2 : wrap64 2 = 2:=wr (by omega) (by omega)
theorem u3 : wrap64 3 = 3:=wr (by omega) (by omega)
theorem w01 : wrap64 (0 + 1) = 1:=wr (by omega) (by omega)
theorem w12 : wrap64 (1 + 1) = 2:=wr (by omega) (by omega)
theorem w23 : wrap64 (2 + 1) = 3:=wr (by omega) (by omega)
theorem aqR (p q : Pt) (hp : Small p) (hq : Small q) : Ev (fun k=>gL.f k p.f0 p.f1 p.f2 q.f0 q.f1 q.f2) (Wo p q):=by
  obtain ⟨h0,h1,h2⟩:=hp;obtain ⟨g0,g1,g2⟩:=hq;have a0 : wrap64 (p.f0 - q.f0) = p.f0 - q.f0:=wr (by omega) (by omega);have a1 : wrap64 (p.f1 - q.f1) = p.f1 - q.f1:=wr (by omega) (by omega);have a2 : wrap64 (p.f2 - q.f2) = p.f2 - q.f2:=wr (by omega) (by omega);have b0 : wrap64 (q.f0 - p.f0) = q.f0 - p.f0:=wr (by omega) (by omega);have b1 : wrap64 (q.f1 - p.f1) = q.f1 - p.f1:=wr (by omega) (by omega);have b2 : wrap64 (q.f2 - p.f2) = q.f2 - p.f2:=wr (by omega) (by omega);have m0:=NK p.f0 q.f0 h0 g0;have m1:=NK p.f1 q.f1 h1 g1;have m2:=NK p.f2 q.f2 h2 g2;unfold Wo;dsimp only;generalize ha : mx (p.f0 - q.f0) (q.f0 - p.f0) = a at *;generalize hb : mx (p.f1 - q.f1) (q.f1 - p.f1) = b at *;generalize hc : mx (p.f2 - q.f2) (q.f2 - p.f2) = c at *;have s0 : wrap64 (0 + a) = a:=(wr (by omega) (by omega)).trans (by omega);have s1 : wrap64 (a + b) = a + b:=wr (by omega) (by omega);have s2 : wrap64 (a + b + c) = a + b + c:=wr (by omega) (by omega);refine Ev.congr (f:=fun k=>gL.l0 k 0 0 0 p.f0 p.f1 p.f2 q.f0 q.f1 q.f2) (fun k=>rfl) ?_;refine Ev.step (f:=fun k=>gL.l0 k a (mx 0 a) 1 p.f0 p.f1 p.f2 q.f0 q.f1 q.f2) (fun k=>by simp only [gL.l0,a0,b0,ha,s0,w01];simp) ?_;refine Ev.step (f:=fun k=>gL.l0 k (a + b) (mx (mx 0 a) b) 2 p.f0 p.f1 p.f2 q.f0 q.f1 q.f2) (fun k=>by simp only [gL.l0,a1,b1,hb,s1,w12];simp) ?_;refine Ev.step (f:=fun k=>gL.l0 k (a + b + c) (mx (mx (mx 0 a) b) c) 3 p.f0 p.f1 p.f2 q.f0 q.f1 q.f2) (fun k=>by simp only [gL.l0,a2,b2,hc,s2,w23];simp) ?_;refine Ev.step (f:=fun _=>some (decide (a + b + c = 2) && decide (mx (mx (mx 0 a) b) c = 1))) (fun k=>?_) (Ev.now _);simp only [gL.l0];rw [if_neg (by decide)];by_cases e : a + b + c = 2
  · rw [if_pos e];simp only [e,decide_true,Bool.true_and];rfl
  · rw [if_neg e];simp [e]
instance azX : DecidableEq Pt:=fun x y =>
  if h : x.f0 = y.f0∧x.f1 = y.f1∧x.f2 = y.f2 then .isTrue (by
    obtain ⟨a,b,c⟩:=x
    obtain ⟨d,e,f⟩:=y
    obtain ⟨h1,h2,h3⟩:=h
    simp only at h1 h2 h3
    subst h1 h2 h3
    rfl)
  else .isFalse (fun e=>h (by subst e;exact ⟨rfl,rfl,rfl⟩))
theorem aox : ((List.range 9).all fun n=>n == 0 || (iq.f 120 (n : Int) == some (cu n))) = true:=by decide +kernel
theorem aqS : ((List.range 9).all fun n=>n == 0 || (cu n).length == many n) = true:=by decide +kernel
theorem aqT : ((List.range 9).all fun n=>n == 0 || (List.range 45).all fun i=>decide (many n ≤ i) || (jl.f 20 (n : Int) (i : Int) == some [(rdP (cu n) i).f0,(rdP (cu n) i).f1,(rdP (cu n) i).f2])) = true:=by decide +kernel
theorem wn (j : Nat) (h : j < 1000000000) : wrap64 ((j : Int) + 1) = ((j + 1 : Nat) : Int):=by rw [wr (by omega) (by omega)];omega
structure Side (n : Nat) : Prop where
  lo : 1 ≤ n
  hi : n ≤ 8
theorem Side.points {n : Nat} (h : Side n) : Ev (fun k=>iq.f k (n : Int)) (cu n):=by
  have a:=List.all_eq_true.1 aox n (by simp;have:=h.hi;omega);have z : (n == 0) = false:=by simp;have:=h.lo;omega
  rw [z,Bool.false_or] at a;exact Ev.of (fun k=>iq.mono _ k) (eq_of_beq a)
theorem ze {n : Nat} (h : n ≤ 8) : many n ≤ 45:=by
  have : n = 0 ∨ n = 1 ∨ n = 2 ∨ n = 3 ∨ n = 4 ∨ n = 5 ∨ n = 6 ∨ n = 7 ∨ n = 8:=by omega
  rcases this with rfl|rfl|rfl|rfl|rfl|rfl|rfl|rfl|rfl <;> decide
theorem Side.len {n : Nat} (h : Side n) : (cu n).length = many n:=by
  have a:=List.all_eq_true.1 aqS n (by simp;have:=h.hi;omega);have z : (n == 0) = false:=by simp;have:=h.lo;omega
  rw [z,Bool.false_or] at a;exact eq_of_beq a
theorem Side.at_ {n : Nat} (h : Side n) {i : Nat} (hi : i < many n) : Ev (fun k=>jl.f k (n : Int) (i : Int)) [(rdP (cu n) i).f0,(rdP (cu n) i).f1,(rdP (cu n) i).f2]:=by
  have a:=List.all_eq_true.1 aqT n (by simp;have:=h.hi;omega);have z : (n == 0) = false:=by simp;have:=h.lo;omega
  rw [z,Bool.false_or] at a;have b:=List.all_eq_true.1 a i (by simp;have:=ze h.hi;omega);have y : decide (many n ≤ i) = false:=by simp;omega
  rw [y,Bool.false_or] at b;exact Ev.of (fun k=>jl.mono _ _ k) (eq_of_beq b)
theorem aoy : ((List.range 9).all fun n=>(cu n).all fun p=>decide (0 ≤ p.f0) && decide (p.f0 ≤ 8) && decide (0 ≤ p.f1) && decide (p.f1 ≤ 8) && decide (0 ≤ p.f2) && decide (p.f2 ≤ 8)) = true:=by decide +kernel
theorem Side.inside {n : Nat} (h : Side n) {i : Nat} (hi : i < many n) : (0 ≤ (rdP (cu n) i).f0∧(rdP (cu n) i).f0 ≤ 8)∧(0 ≤ (rdP (cu n) i).f1∧(rdP (cu n) i).f1 ≤ 8)∧(0 ≤ (rdP (cu n) i).f2∧(rdP (cu n) i).f2 ≤ 8):=by
  have a:=List.all_eq_true.1 aoy n (by simp;have:=h.hi;omega);have hl:=h.len
  have e : rdP (cu n) i = (cu n)[i]'(by omega):=by
    show (cu n).getD (i : Int).toNat _ = _;rw [Int.toNat_natCast,List.getD_eq_getElem?_getD,List.getElem?_eq_getElem (by omega)];rfl
  have b:=List.all_eq_true.1 a _ (List.getElem_mem (l:=cu n) (n:=i) (by omega));rw [← e] at b;simp only [Bool.and_eq_true,decide_eq_true_eq] at b;omega
theorem Side.small {n : Nat} (h : Side n) {i : Nat} (hi : i < many n) : Small (rdP (cu n) i):=by
  have:=h.inside hi;unfold Small;omega
def NB (n i j : Nat) : Bool:=Wo (rdP (cu n) i) (rdP (cu n) j)
theorem Side.near {n : Nat} (h : Side n) {i j : Nat} (hi : i < many n) (hj : j < many n) :
    Ev (fun k=>gL.f k (rdP (cu n) i).f0 (rdP (cu n) i).f1 (rdP (cu n) i).f2 (rdP (cu n) j).f0 (rdP (cu n) j).f1 (rdP (cu n) j).f2) (NB n i j):=aqR _ _ (h.small hi) (h.small hj)
theorem abK (x : Int) (h : -100 ≤ x∧x ≤ 100) : sI.f x = some (mx x (-x)):=by
  have e : wrap64 (-x) = -x:=wr (by omega) (by omega);simp only [sI.f,e,zM.f,mx];split <;> split <;> simp <;> omega
theorem abL (x y : Int) : mx (x - y) (-(x - y)) = mx (x - y) (y - x):=by rw [show -(x - y) = y - x by omega]
theorem mx3 (a b c : Int) (ha : 0 ≤ a) (hb : 0 ≤ b) (hc : 0 ≤ c) (h : a + b + c = 2) : (mx (mx (mx 0 a) b) c = 1 ↔ a ≤ 1∧b ≤ 1∧c ≤ 1):=by
  unfold mx;split <;> split <;> split <;> omega
theorem Side.abM {n : Nat} (h : Side n) {i j : Nat} (hi : i < many n) (hj : j < many n) : Ev (fun k=>iK.f k (n : Int) (i : Int) (j : Int)) (NB n i j):=by
  refine Ev.bind (h.at_ hi) ?_;refine Ev.bind (h.at_ hj) ?_;obtain ⟨h0,h1,h2⟩:=h.inside hi;obtain ⟨g0,g1,g2⟩:=h.inside hj;unfold NB Wo;dsimp only;generalize (rdP (cu n) i).f0 = x0 at *;generalize (rdP (cu n) i).f1 = x1 at *;generalize (rdP (cu n) i).f2 = x2 at *;generalize (rdP (cu n) j).f0 = y0 at *;generalize (rdP (cu n) j).f1 = y1 at *;generalize (rdP (cu n) j).f2 = y2 at *;have m0:=NK x0 y0 (by omega) (by omega);have m1:=NK x1 y1 (by omega) (by omega);have m2:=NK x2 y2 (by omega) (by omega);have e0 : sI.f (wrap64 (x0 - y0)) = some (mx (x0 - y0) (y0 - x0)):=by rw [wr (by omega) (by omega),abK _ (by omega),abL]
  have e1 : sI.f (wrap64 (x1 - y1)) = some (mx (x1 - y1) (y1 - x1)):=by rw [wr (by omega) (by omega),abK _ (by omega),abL]
  have e2 : sI.f (wrap64 (x2 - y2)) = some (mx (x2 - y2) (y2 - x2)):=by rw [wr (by omega) (by omega),abK _ (by omega),abL]
  generalize mx (x0 - y0) (y0 - x0) = a at *;generalize mx (x1 - y1) (y1 - x1) = b at *;generalize mx (x2 - y2) (y2 - x2) = c at *;have r0 : ∀ u v w : Int,rd [u,v,w] 0 = u:=fun _ _ _=>rfl
  have r1 : ∀ u v w : Int,rd [u,v,w] 1 = v:=fun _ _ _=>rfl
  have r2 : ∀ u v w : Int,rd [u,v,w] 2 = w:=fun _ _ _=>rfl
  have s0 : wrap64 (0 + a) = a:=(wr (by omega) (by omega)).trans (by omega);have s1 : wrap64 (a + b) = a + b:=wr (by omega) (by omega);have s2 : wrap64 (a + b + c) = a + b + c:=wr (by omega) (by omega);have sa : wrap64 a = a:=wr (by omega) (by omega);have k3:=mx3 a b c (by omega) (by omega) (by omega);by_cases c0 : a > 1
  · refine Ev.step (f:=fun _=>some false) (fun k=>by simp only [iK.l0,r0,e0];simp [c0]) (jD (Ev.now _) ?_)
    by_cases hs : a + b + c = 2
    · have:=k3 hs
      simp only [hs,decide_true,Bool.true_and];exact (decide_eq_false (by omega)).symm
    · simp [hs]
  refine Ev.step (f:=fun k=>iK.l0 k [x0,x1,x2] [y0,y1,y2] a 3 1) (fun k=>by simp only [iK.l0,r0,e0];simp [c0,sa,u1]) ?_;by_cases c1 : b > 1
  · refine Ev.step (f:=fun _=>some false) (fun k=>by simp only [iK.l0,r1,e1];simp [c1]) (jD (Ev.now _) ?_)
    by_cases hs : a + b + c = 2
    · have:=k3 hs
      simp only [hs,decide_true,Bool.true_and];exact (decide_eq_false (by omega)).symm
    · simp [hs]
  refine Ev.step (f:=fun k=>iK.l0 k [x0,x1,x2] [y0,y1,y2] (a + b) 3 2) (fun k=>by simp only [iK.l0,r1,e1];simp [c1,s1,u2]) ?_;by_cases c2 : c > 1
  · refine Ev.step (f:=fun _=>some false) (fun k=>by simp only [iK.l0,r2,e2];simp [c2]) (jD (Ev.now _) ?_)
    by_cases hs : a + b + c = 2
    · have:=k3 hs
      simp only [hs,decide_true,Bool.true_and];exact (decide_eq_false (by omega)).symm
    · simp [hs]
  refine Ev.step (f:=fun k=>iK.l0 k [x0,x1,x2] [y0,y1,y2] (a + b + c) 3 3) (fun k=>by simp only [iK.l0,r2,e2];simp [c2,s2,u3]) ?_;refine Ev.step (f:=fun _=>some ((a + b + c) == 2)) (fun k=>by simp only [iK.l0];simp) (jD (Ev.now _) ?_);by_cases hs : a + b + c = 2
  · have:=k3 hs
    simp only [hs,decide_true,Bool.true_and];exact (decide_eq_true (by omega)).symm
  · simp [hs]
def c2 (N : Nat→Nat→Bool) (i j : Nat) : Nat→Nat→List (List Int)
  | 0,_=>[]
  | d + 1,k=>(if (N i j && N i k && N j k) = true then [[(i : Int),(j : Int),(k : Int)]] else []) ++ c2 N i j d (k + 1)
def c1 (N : Nat→Nat→Bool) (m i : Nat) : Nat→Nat→List (List Int)
  | 0,_=>[]
  | d + 1,j=>c2 N i j (m - (j + 1)) (j + 1) ++ c1 N m i d (j + 1)
def c0 (N : Nat→Nat→Bool) (m : Nat) : Nat→Nat→List (List Int)
  | 0,_=>[]
  | d + 1,i=>c1 N m i (m - (i + 1)) (i + 1) ++ c0 N m d (i + 1)
def Jo (n : Nat) : List (List Int):=c0 (NB n) (many n) (many n) 0
theorem aji {N : Nat→Nat→Bool} {i j : Nat} (h : N i j = false) : ∀ d k,c2 N i j d k = []
  | 0,_=>rfl
  | d + 1,k=>by simp [c2,h,aji h d (k + 1)]
theorem Wp (N : Nat→Nat→Bool) (i j : Nat) : ∀ d k,(c2 N i j d k).length ≤ d
  | 0,_=>Nat.le_refl _
  | d + 1,k=>by
    have:=Wp N i j d (k + 1)
    rw [c2,List.length_append]
    split <;> simp <;> omega
theorem Wq (N : Nat→Nat→Bool) (m i : Nat) (hm : m ≤ 45) : ∀ d j,(c1 N m i d j).length ≤ d * 45
  | 0,_=>Nat.le_refl _
  | d + 1,j=>by
    have:=Wq N m i hm d (j + 1)
    have:=Wp N i j (m - (j + 1)) (j + 1)
    rw [c1,List.length_append]
    omega
theorem Vv {n m : Nat} (h : Side n) (hm : many n = m) : ((cu n).length : Int) = (m : Int):=by rw [h.len,hm]
section
variable {n m : Nat} (h : Side n) (hm : many n = m)
include h hm
theorem aqU (i j : Nat) (hij : i < j) (hj : j < m) (r : List (List Int)) : ∀ (d k : Nat) (out : List (List Int)),k + d = m→j < k→out.length ≤ i * 2025 + j * 45 + k →
    Ev (fun f=>bT.l1 f (out ++ c2 (NB n) i j d k) (cu n) i ((j + 1 : Nat) : Int) (cu n) m i (rdP (cu n) i).f0 (rdP (cu n) i).f1 (rdP (cu n) i).f2) r →
    Ev (fun f=>bT.l2 f out (cu n) i j k (cu n) m i (rdP (cu n) i).f0 (rdP (cu n) i).f1 (rdP (cu n) i).f2) r:=by
  have hl:=Vv h hm;have yS:=ze h.hi;rw [hm] at yS;intro d;induction d with
  | zero =>
    intro k out hk hjk hb e;rw [c2,List.append_nil] at e;refine Ev.step (fun f=>bT.l2.eq_2 ..) ?_;rw [hl];refine aK (by omega) ?_;refine Ev.step (fun f=>bT.j3.eq_2 ..) ?_;refine aK (by decide) ?_;rw [wn j (by omega)];exact e
  | succ d ih =>
    intro k out hk hjk hb e;refine Ev.step (fun f=>bT.l2.eq_2 ..) ?_;rw [hl];refine au (by omega) (au (by omega) (au (by omega) ?_));refine Ev.bind (h.near (i:=i) (j:=j) (by omega) (by omega)) ?_;refine Ev.step (fun f=>bT.j3.eq_2 ..) ?_;cases hN : NB n i j with
    | false =>
      rw [aji hN,List.append_nil] at e;refine aK (by decide) ?_;rw [wn j (by omega)];exact e
    | true =>
      rw [hl];refine au rfl (au (by omega) (au (by omega) ?_));refine Ev.bind (h.near (i:=i) (j:=k) (by omega) (by omega)) ?_;rw [c2,hN,Bool.true_and] at e;cases hK : NB n i k with
      | false =>
        rw [hK,Bool.false_and,if_neg (by decide),List.nil_append] at e;refine aK (by decide) ?_;rw [wn k (by omega)];exact ih (k + 1) out (by omega) (by omega) (by omega) e
      | true =>
        refine au rfl (au (by omega) (au (by omega) ?_));refine Ev.bind (h.near (i:=j) (j:=k) (by omega) (by omega)) ?_;rw [hK,Bool.true_and] at e;cases hJ : NB n j k with
        | false =>
          rw [hJ,if_neg (by decide),List.nil_append] at e;refine aK (by decide) ?_;rw [wn k (by omega)];exact ih (k + 1) out (by omega) (by omega) (by omega) e
        | true =>
          rw [hJ,if_pos rfl,← List.append_assoc] at e;refine au rfl (au (by omega) ?_);rw [wn k (by omega)];exact ih (k + 1) _ (by omega) (by omega) (by rw [List.length_append];simp;omega) e
theorem aqV (i : Nat) (hi : i < m) (r : List (List Int)) : ∀ (d j : Nat) (out : List (List Int)),j + d = m→i < j→out.length ≤ i * 2025 + j * 45 →
    Ev (fun f=>bT.l0 f (out ++ c1 (NB n) m i d j) (cu n) (cu n) m ((i + 1 : Nat) : Int)) r →
    Ev (fun f=>bT.l1 f out (cu n) i j (cu n) m i (rdP (cu n) i).f0 (rdP (cu n) i).f1 (rdP (cu n) i).f2) r:=by
  have hl:=Vv h hm;have yS:=ze h.hi;rw [hm] at yS;intro d;induction d with
  | zero =>
    intro j out hj hij hb e;rw [c1,List.append_nil] at e;refine Ev.step (fun f=>bT.l1.eq_2 ..) ?_;rw [hl];refine aK (by omega) ?_;rw [wn i (by omega)];exact e
  | succ d ih =>
    intro j out hj hij hb e;refine Ev.step (fun f=>bT.l1.eq_2 ..) ?_;rw [hl];refine au (by omega) ?_;rw [wn j (by omega)];rw [c1,← List.append_assoc] at e;have hc:=Wp (NB n) i j (m - (j + 1)) (j + 1);exact aqU h hm i j hij (by omega) r (m - (j + 1)) (j + 1) out (by omega) (by omega) (by omega) (ih (j + 1) _ (by omega) (by omega) (by rw [List.length_append];omega) e)
theorem aqW (r : List (List Int)) : ∀ (d i : Nat) (out : List (List Int)),i + d = m→out.length ≤ i * 2025 →
    r = out ++ c0 (NB n) m d i→Ev (fun f=>bT.l0 f out (cu n) (cu n) m i) r:=by
  have hl:=Vv h hm;have yS:=ze h.hi;rw [hm] at yS;intro d;induction d with
  | zero =>
    intro i out hi hb e;rw [c0,List.append_nil] at e;refine Ev.step (fun f=>bT.l0.eq_2 ..) ?_;refine aK (by omega) (jD (Ev.now _) e.symm)
  | succ d ih =>
    intro i out hi hb e;refine Ev.step (fun f=>bT.l0.eq_2 ..) ?_;rw [hl];refine au (by omega) (au (by omega) (au (by omega) ?_));rw [wn i (by omega)];rw [c0,← List.append_assoc] at e;have hc:=Wq (NB n) m i yS (m - (i + 1)) (i + 1);exact aqV h hm i (by omega) r (m - (i + 1)) (i + 1) out (by omega) (by omega) (by omega) (ih (i + 1) _ (by omega) (by rw [List.length_append];omega) e)
theorem Fe : pq.f (n : Int) = some (m : Int):=by
  have : n = 1 ∨ n = 2 ∨ n = 3 ∨ n = 4 ∨ n = 5 ∨ n = 6 ∨ n = 7 ∨ n = 8:=by have:=h.lo;have:=h.hi;omega
  subst hm;rcases this with rfl|rfl|rfl|rfl|rfl|rfl|rfl|rfl <;> decide +kernel
theorem aqX (i j : Nat) (hij : i < j) (hj : j < m) (r : List (List Int)) : ∀ (d k : Nat) (out : List (List Int)),k + d = m→j < k→out.length ≤ i * 2025 + j * 45 + k →
    Ev (fun f=>cB.l1 f n (out ++ c2 (NB n) i j d k) i ((j + 1 : Nat) : Int)) r →
    Ev (fun f=>cB.l2 f n out i j k) r:=by
  have yS:=ze h.hi;rw [hm] at yS;intro d;induction d with
  | zero =>
    intro k out hk hjk hb e;rw [c2,List.append_nil] at e;refine Ev.step (fun f=>cB.l2.eq_2 ..) ?_;refine dU (Fe h hm) ?_;refine aK (by omega) ?_;rw [wn j (by omega)];exact e
  | succ d ih =>
    intro k out hk hjk hb e;refine Ev.step (fun f=>cB.l2.eq_2 ..) ?_;refine dU (Fe h hm) ?_;refine au (by omega) ?_;refine Ev.bind (h.abM (i:=i) (j:=j) (by omega) (by omega)) ?_;rw [wn k (by omega)];cases hN : NB n i j with
    | false =>
      rw [c2,hN,Bool.false_and,Bool.false_and,if_neg (by decide),List.nil_append] at e;exact aK (by decide) (ih (k + 1) out (by omega) (by omega) (by omega) e)
    | true =>
      refine au rfl ?_;refine Ev.bind (h.abM (i:=i) (j:=k) (by omega) (by omega)) ?_;rw [c2,hN,Bool.true_and] at e;cases hK : NB n i k with
      | false =>
        rw [hK,Bool.false_and,if_neg (by decide),List.nil_append] at e;exact aK (by decide) (ih (k + 1) out (by omega) (by omega) (by omega) e)
      | true =>
        refine au rfl ?_;refine Ev.bind (h.abM (i:=j) (j:=k) (by omega) (by omega)) ?_;rw [hK,Bool.true_and] at e;cases hJ : NB n j k with
        | false =>
          rw [hJ,if_neg (by decide),List.nil_append] at e;exact aK (by decide) (ih (k + 1) out (by omega) (by omega) (by omega) e)
        | true =>
          rw [hJ,if_pos rfl,← List.append_assoc] at e;exact au rfl (au (by omega) (ih (k + 1) _ (by omega) (by omega) (by rw [List.length_append];simp;omega) e))
theorem aqY (i : Nat) (hi : i < m) (r : List (List Int)) : ∀ (d j : Nat) (out : List (List Int)),j + d = m→i < j→out.length ≤ i * 2025 + j * 45 →
    Ev (fun f=>cB.l0 f n (out ++ c1 (NB n) m i d j) ((i + 1 : Nat) : Int)) r →
    Ev (fun f=>cB.l1 f n out i j) r:=by
  have yS:=ze h.hi;rw [hm] at yS;intro d;induction d with
  | zero =>
    intro j out hj hij hb e;rw [c1,List.append_nil] at e;refine Ev.step (fun f=>cB.l1.eq_2 ..) ?_;refine dU (Fe h hm) ?_;refine aK (by omega) ?_;rw [wn i (by omega)];exact e
  | succ d ih =>
    intro j out hj hij hb e;refine Ev.step (fun f=>cB.l1.eq_2 ..) ?_;refine dU (Fe h hm) ?_;refine au (by omega) ?_;rw [wn j (by omega)];rw [c1,← List.append_assoc] at e;have hc:=Wp (NB n) i j (m - (j + 1)) (j + 1);exact aqX h hm i j hij (by omega) r (m - (j + 1)) (j + 1) out (by omega) (by omega) (by omega) (ih (j + 1) _ (by omega) (by omega) (by rw [List.length_append];omega) e)
theorem aqZ (r : List (List Int)) : ∀ (d i : Nat) (out : List (List Int)),i + d = m→out.length ≤ i * 2025 →
    r = out ++ c0 (NB n) m d i→Ev (fun f=>cB.l0 f n out i) r:=by
  have yS:=ze h.hi;rw [hm] at yS;intro d;induction d with
  | zero =>
    intro i out hi hb e;rw [c0,List.append_nil] at e;refine Ev.step (fun f=>cB.l0.eq_2 ..) ?_;refine dU (Fe h hm) ?_;exact aK (by omega) (jD (Ev.now _) e.symm)
  | succ d ih =>
    intro i out hi hb e;refine Ev.step (fun f=>cB.l0.eq_2 ..) ?_;refine dU (Fe h hm) ?_;refine au (by omega) ?_;rw [wn i (by omega)];rw [c0,← List.append_assoc] at e;have hc:=Wq (NB n) m i yS (m - (i + 1)) (i + 1);exact aqY h hm i (by omega) r (m - (i + 1)) (i + 1) out (by omega) (by omega) (by omega) (ih (i + 1) _ (by omega) (by rw [List.length_append];omega) e)
end
theorem Side.cells {n : Nat} (h : Side n) : Ev (fun k=>bT.f k (n : Int)) (Jo n):=by
  refine Ev.bind h.points ?_;rw [Vv h rfl];exact aqW h rfl _ (many n) 0 [] (by omega) (Nat.le_refl _) rfl
theorem Side.aq0 {n : Nat} (h : Side n) : Ev (fun k=>cB.f k (n : Int)) (Jo n) :=
  aqZ h rfl _ (many n) 0 [] (by omega) (Nat.le_refl _) rfl
theorem akb (N : Nat→Nat→Bool) (m : Nat) (hm : m ≤ 45) : ∀ d i,(c0 N m d i).length ≤ d * 2025
  | 0,_=>Nat.le_refl _
  | d + 1,i=>by
    have:=akb N m hm d (i + 1)
    have:=Wq N m i hm (m - (i + 1)) (i + 1)
    rw [c0,List.length_append]
    omega
theorem Side.azR {n : Nat} (h : Side n) : (Jo n).length ≤ 91125:=by
  have:=ze h.hi;have:=akb (NB n) (many n) this (many n) 0;unfold Jo;omega
theorem ajj (N : Nat→Nat→Bool) (i j : Nat) : ∀ d k,∀ c ∈ c2 N i j d k,c.length = 3
  | 0,_,c,h=>by simp [c2] at h
  | d + 1,k,c,h=>by
    rw [c2,List.mem_append] at h
    rcases h with h|h
    · split at h
      · simp at h;subst h;rfl
      · simp at h
    · exact ajj N i j d (k + 1) c h
theorem ajk (N : Nat→Nat→Bool) (m i : Nat) : ∀ d j,∀ c ∈ c1 N m i d j,c.length = 3
  | 0,_,c,h=>by simp [c1] at h
  | d + 1,j,c,h=>by
    rw [c1,List.mem_append] at h
    rcases h with h|h
    · exact ajj _ _ _ _ _ c h
    · exact ajk N m i d (j + 1) c h
theorem ajl (N : Nat→Nat→Bool) (m : Nat) : ∀ d i,∀ c ∈ c0 N m d i,c.length = 3
  | 0,_,c,h=>by simp [c0] at h
  | d + 1,i,c,h=>by
    rw [c0,List.mem_append] at h
    rcases h with h|h
    · exact ajk _ _ _ _ _ c h
    · exact ajl N m d (i + 1) c h
theorem azL (n : Nat) : ∀ c ∈ Jo n,c.length = 3:=ajl _ _ _ _
end Go.Proofs.Ythaonijhfeemfaa.gF
namespace Go.Proofs.Ythaonijhfeemfaa.gF
open Go.RowKit Go.Proofs.Ythaonijhfeemfaa.dL Go.Proofs.YthaonijhfeemfaaW.bU Go.Proofs.YthaonijhfeemfaaW.fB Go.Proofs.YthaonijhfeemfaaW.iw
set_option linter.unusedVariables false
set_option linter.unusedSimpArgs false
set_option linter.unusedSectionVars false
set_option maxRecDepth 100000
theorem Ws {l : List Int} {i : Nat} (h : i < l.length) : rd l (i : Int) = l[i]:=by
  show l.getD (i : Int).toNat 0 = _;rw [Int.toNat_natCast,List.getD_eq_getElem?_getD,List.getElem?_eq_getElem h];rfl
theorem ao3 (l : List Int) (x : Int) (hl : l.length < 1000000000) : ∀ (d i : Nat),i + d = l.length →
    ∃ r : Int,Ev (fun k=>mo.l0 k l x (l.length : Int) i) r∧(0 ≤ r ↔ x ∈ l.drop i):=by
  intro d;induction d with
  | zero =>
    intro i hi;refine ⟨-1,Ev.step (fun f=>mo.l0.eq_2 ..) (aK (by omega) (Ev.now _)),?_⟩;rw [List.drop_eq_nil_of_le (by omega)];simp
  | succ d ih =>
    intro i hi;obtain ⟨r,e,hr⟩:=ih (i + 1) (by omega);have hlt : i < l.length:=by omega
    rw [List.drop_eq_getElem_cons hlt];by_cases hx : x = l[i]
    · exact ⟨i,Ev.step (fun f=>mo.l0.eq_2 ..) (au (by omega) (au (by omega) (au (by omega) (au (by rw [Ws hlt];exact hx) (Ev.now _))))),⟨fun _=>by rw [List.mem_cons];exact .inl hx,fun _=>by omega⟩⟩
    · refine ⟨r,Ev.step (fun f=>mo.l0.eq_2 ..) (au (by omega) (au (by omega) (au (by omega) (aK (by rw [Ws hlt];exact hx) ?_)))),by rw [List.mem_cons,hr];exact ⟨.inr,fun z=>z.resolve_left hx⟩⟩
      rw [wn i (by omega)];exact e
theorem agQ (l : List Int) (x : Int) (hl : l.length < 1000000000) : Ev (fun k=>tH.f k l x) (decide (x ∈ l)):=by
  obtain ⟨r,e,hr⟩:=ao3 l x hl l.length 0 (by omega);refine Ev.bind (g:=fun k=>mo.f k l x) e ?_;refine jD (Ev.now _) ?_;rw [List.drop_zero] at hr;exact decide_eq_decide.2 hr
theorem asA (l : List Int) (x : Int) (hl : l.length < 1000000000) : ∀ (d i : Nat),i + d = l.length →
    Ev (fun k=>ku.l0 k x l (l.length : Int) i) (decide (x ∈ l.drop i)):=by
  intro d;induction d with
  | zero =>
    intro i hi;refine Ev.step (fun f=>ku.l0.eq_2 ..) (aK (by omega) (jD (Ev.now _) ?_));rw [List.drop_eq_nil_of_le (by omega)];simp
  | succ d ih =>
    intro i hi;have hlt : i < l.length:=by omega
    rw [List.drop_eq_getElem_cons hlt];by_cases hx : l[i] = x
    · exact Ev.step (fun f=>ku.l0.eq_2 ..) (au (by omega) (au (by omega) (au (by omega) (au (by rw [Ws hlt];exact hx) (jD (Ev.now _) (decide_eq_true (by rw [List.mem_cons];exact .inl hx.symm)).symm)))))
    · refine Ev.step (fun f=>ku.l0.eq_2 ..) (au (by omega) (au (by omega) (au (by omega) (aK (by rw [Ws hlt];exact hx) ?_))))
      rw [wn i (by omega)];exact jD (ih (i + 1) (by omega)) (decide_eq_decide.2 (by rw [List.mem_cons];exact ⟨.inr,fun z=>z.resolve_left (fun h=>hx h.symm)⟩))
theorem akc (l : List Int) (x : Int) (hl : l.length < 1000000000) : Ev (fun k=>ku.f k l x) (decide (x ∈ l)):=asA l x hl l.length 0 (by omega)
def withFn (cells : List (List Int)) (x y : Int) : Nat→Nat→List Int
  | 0,_=>[]
  | d + 1,i=>(if x ∈ cells.getD i []∧y ∈ cells.getD i [] then [(i : Int)] else []) ++ withFn cells x y d (i + 1)
theorem Zf (cells : List (List Int)) (x y : Int) : ∀ d i,(withFn cells x y d i).length ≤ d
  | 0,_=>Nat.le_refl _
  | d + 1,i=>by
    have:=Zf cells x y d (i + 1)
    rw [withFn,List.length_append]
    split <;> simp <;> omega
section
variable (cells : List (List Int)) (x y : Int) (hl : cells.length < 1000000) (he : ∀ c ∈ cells,c.length = 3)
include hl he
theorem alW (i : Nat) (h : i < cells.length) : (ah cells (i : Int)).length < 1000000000:=by
  show (cells.getD (i : Int).toNat []).length < _;rw [Int.toNat_natCast,List.getD_eq_getElem?_getD,List.getElem?_eq_getElem h];have:=he _ (List.getElem_mem (l:=cells) (n:=i) h);simp only [Option.getD_some];omega
theorem aq1 (r : List Int) : ∀ (d i : Nat) (out : List Int),i + d = cells.length→out.length ≤ i→r = out ++ withFn cells x y d i →
    Ev (fun k=>kP.l0 k x y out cells (cells.length : Int) i) r:=by
  intro d;induction d with
  | zero =>
    intro i out hi hb e;rw [withFn,List.append_nil] at e;exact Ev.step (fun f=>kP.l0.eq_2 ..) (aK (by omega) (jD (Ev.now _) e.symm))
  | succ d ih =>
    intro i out hi hb e;have hz:=alW cells hl he i (by omega);refine Ev.step (fun f=>kP.l0.eq_2 ..) (au (by omega) (au (by omega) (au (by omega) ?_)));rw [withFn] at e;refine Ev.bind (agQ _ x hz) ?_;rw [wn i (by omega)];by_cases hx : x ∈ cells.getD i []
    · refine au (decide_eq_true hx) ?_
      refine Ev.bind (agQ _ y hz) ?_;by_cases hy : y ∈ cells.getD i []
      · rw [if_pos ⟨hx,hy⟩,← List.append_assoc] at e
        exact au (decide_eq_true hy) (au (by omega) (ih (i + 1) _ (by omega) (by rw [List.length_append];simp;omega) e))
      · rw [if_neg (fun z=>hy z.2),List.nil_append] at e
        exact aK (fun z=>hy (of_decide_eq_true z)) (ih (i + 1) _ (by omega) (by omega) e)
    · rw [if_neg (fun z=>hx z.1),List.nil_append] at e
      exact aK (fun z=>hx (of_decide_eq_true z)) (ih (i + 1) _ (by omega) (by omega) e)
theorem aoz (r : List Int) : ∀ (d i : Nat) (out : List Int),i + d = cells.length→out.length ≤ i→r = out ++ withFn cells x y d i →
    Ev (fun k=>lq.l0 k x y out cells (cells.length : Int) i) r:=by
  intro d;induction d with
  | zero =>
    intro i out hi hb e;rw [withFn,List.append_nil] at e;exact Ev.step (fun f=>lq.l0.eq_2 ..) (aK (by omega) (jD (Ev.now _) e.symm))
  | succ d ih =>
    intro i out hi hb e;have hz:=alW cells hl he i (by omega);refine Ev.step (fun f=>lq.l0.eq_2 ..) (au (by omega) (au (by omega) (au (by omega) ?_)));rw [withFn] at e;refine Ev.bind (akc _ x hz) ?_;rw [wn i (by omega)];by_cases hx : x ∈ cells.getD i []
    · refine au (decide_eq_true hx) ?_
      refine Ev.bind (akc _ y hz) ?_;by_cases hy : y ∈ cells.getD i []
      · rw [if_pos ⟨hx,hy⟩,← List.append_assoc] at e
        exact au (decide_eq_true hy) (au (by omega) (ih (i + 1) _ (by omega) (by rw [List.length_append];simp;omega) e))
      · rw [if_neg (fun z=>hy z.2),List.nil_append] at e
        exact aK (fun z=>hy (of_decide_eq_true z)) (ih (i + 1) _ (by omega) (by omega) e)
    · rw [if_neg (fun z=>hx z.1),List.nil_append] at e
      exact aK (fun z=>hx (of_decide_eq_true z)) (ih (i + 1) _ (by omega) (by omega) e)
theorem aq2 : Ev (fun k=>kP.f k cells x y) (withFn cells x y cells.length 0):=aq1 cells x y hl he _ cells.length 0 [] (by omega) (Nat.le_refl _) rfl
theorem aoA : Ev (fun k=>lq.f k cells x y) (withFn cells x y cells.length 0):=aoz cells x y hl he _ cells.length 0 [] (by omega) (Nat.le_refl _) rfl
end
end Go.Proofs.Ythaonijhfeemfaa.gF
namespace Go.Proofs.Ythaonijhfeemfaa.gF
open Go.RowKit Go.Proofs.Ythaonijhfeemfaa.dL Go.Proofs.YthaonijhfeemfaaW.bU Go.Proofs.YthaonijhfeemfaaW.fB Go.Proofs.YthaonijhfeemfaaW.iw
set_option linter.unusedVariables false
set_option linter.unusedSimpArgs false
set_option maxRecDepth 100000
theorem ajm (a b c : Int) : zN.f a b c = some (decide (b ≤ a∧a ≤ c)):=by
  unfold zN.f;by_cases h : a ≥ b
  · rw [if_pos h];simp [show b ≤ a from h]
  · rw [if_neg h];simp [show ¬ b ≤ a from h]
theorem aaW (a b c : Int) : wY.f a b c = some (decide (b ≤ a∧a ≤ c)):=by
  unfold wY.f;by_cases h : b ≤ a
  · rw [if_pos h];simp [h]
  · rw [if_neg h];simp [h]
theorem Zk (a : Int) : sH.f a = some (decide (1 ≤ a∧a ≤ 8)):=by
  unfold sH.f;rw [ajm];rfl
theorem aho (a : Int) : wT.f a = some (decide (1 ≤ a∧a ≤ 8)):=by
  unfold wT.f;rw [aaW];rfl
theorem uF {l : List Int} {i : Nat} (h : i < l.length) : rd l (i : Int) = l[i]:=by rw [asy,List.getD_eq_getElem?_getD,List.getElem?_eq_getElem h];rfl
def okB (l : List Int) : Bool:=l.all (fun x=>decide (0 ≤ x∧x ≤ 2))
theorem ahH (l : List Int) (hl : l.length ≤ 1048576) : ∀ d i : Nat,i + d = l.length→Ev (fun k=>ng.l0 k 0 2 l (l.length : Int) (i : Int)) (okB (l.drop i))
  | 0,i,h=>Ev.step (fun f=>ng.l0.eq_2 ..) (aK (by omega) (jD (Ev.now _) (by rw [List.drop_eq_nil_of_le (by omega)];rfl)))
  | d + 1,i,h=>by
    have hlt : i < l.length:=by omega
    refine Ev.step (fun f=>ng.l0.eq_2 ..) (au (by omega) (au (by omega) (au (by omega) (dU (ajm _ _ _) ?_))))
    unfold okB
    rw [List.drop_eq_getElem_cons hlt,List.all_cons,uF hlt,wr (show -9223372036854775808 ≤ (i : Int) + 1 by omega) (by omega)]
    by_cases hc : 0 ≤ l[i]∧l[i] ≤ 2
    · rw [decide_eq_true hc,Bool.true_and]
      exact au rfl (ahH l hl d (i + 1) (by omega))
    · rw [decide_eq_false hc,Bool.false_and]
      exact aK (by decide) (Ev.now _)
theorem ajn (x : Int) : Fa.f x = some (!decide (0 ≤ x∧x ≤ 2)):=by
  unfold Fa.f;rw [aaW];rfl
theorem ahI (l : List Int) (hl : l.length ≤ 1048576) : ∀ d i : Nat,i + d = l.length→∃ r : Int,Ev (fun k=>mI.l0 k l (l.length : Int) (i : Int)) r∧decide (r ≥ 0) = !okB (l.drop i)
  | 0,i,h=>⟨-1,Ev.step (fun f=>mI.l0.eq_2 ..) (aK (by omega) (Ev.now _)),by rw [List.drop_eq_nil_of_le (by omega)];rfl⟩
  | d + 1,i,h=>by
    have hlt : i < l.length:=by omega
    by_cases hc : 0 ≤ l[i]∧l[i] ≤ 2
    · obtain ⟨r,h1,h2⟩:=ahI l hl d (i + 1) (by omega)
      refine ⟨r,Ev.step (fun f=>mI.l0.eq_2 ..) (au (by omega) (au (by omega) (au (by omega) (dU (ajn _) (aK (by rw [uF hlt,decide_eq_true hc];decide) ?_))))),?_⟩
      · rw [wr (by omega) (by omega)];exact h1
      · rw [h2]
        unfold okB
        rw [List.drop_eq_getElem_cons hlt,List.all_cons,decide_eq_true hc,Bool.true_and]
    · refine ⟨i,Ev.step (fun f=>mI.l0.eq_2 ..) (au (by omega) (au (by omega) (au (by omega) (dU (ajn _) (au (by rw [uF hlt,decide_eq_false hc];rfl) (Ev.now _)))))),?_⟩
      unfold okB
      rw [List.drop_eq_getElem_cons hlt,List.all_cons,decide_eq_false hc,Bool.false_and,decide_eq_true (by omega)]
      rfl
theorem asB (l : List Int) (hl : l.length ≤ 1048576) : Ev (fun k=>yU.f k l) (!okB l):=by
  obtain ⟨r,h1,h2⟩:=ahI l hl l.length 0 (by omega);rw [List.drop_zero] at h2;exact Ev.bind h1 (jD (Ev.now _) h2)
def cnt (a : Int) : Int:=wrap64 (Int.tdiv (wrap64 ((wrap64 (a + 1)) * (wrap64 (a + 2)))) 2)
def yT (a : Int) (l : List Int) : Bool:=decide (1 ≤ a∧a ≤ 8) && (decide ((l.length : Int) = cnt a) && okB l)
theorem Pv (a : Int) (l : List Int) (hl : l.length ≤ 1048576) : Ev (fun k=>gG.f k a l) (yT a l):=by
  refine dU (Zk a) ?_;unfold yT;by_cases h : 1 ≤ a∧a ≤ 8
  · rw [decide_eq_true h]
    refine au rfl (dU (show pq.f a = some (cnt a) from rfl) ?_);by_cases h2 : (l.length : Int) = cnt a
    · have ha:=ahH l hl l.length 0 (by omega)
      rw [List.drop_zero] at ha;rw [decide_eq_true h2];exact au h2 (Ev.bind ha (Ev.now _))
    · rw [decide_eq_false h2]
      exact aK h2 (Ev.now _)
  · rw [decide_eq_false h]
    exact aK (by decide) (Ev.now _)
theorem Zc (a : Int) (l : List Int) (hl : l.length ≤ 1048576) : Ev (fun k=>o9.f k a l) (yT a l):=by
  refine dU (aho a) ?_;unfold yT;by_cases h : 1 ≤ a∧a ≤ 8
  · rw [decide_eq_true h]
    refine au rfl (dU (show Fb.f a = some (cnt a) from rfl) ?_);by_cases h2 : (l.length : Int) = cnt a
    · rw [decide_eq_true h2]
      exact au h2 (Ev.bind (asB l hl) (jD (Ev.now _) (by cases okB l <;> rfl)))
    · rw [decide_eq_false h2]
      exact aK h2 (Ev.now _)
  · rw [decide_eq_false h]
    exact aK (by decide) (Ev.now _)
end Go.Proofs.Ythaonijhfeemfaa.gF
set_option linter.unusedVariables false
namespace Go.Proofs.Ythaonijhfeemfaa.gF.Path
theorem akd {α : Type} [DecidableEq α] : ∀ (A B : List α),A.Nodup→(∀ x ∈ A,x ∈ B)→A.length ≤ B.length
  | [],_,_,_=>Nat.zero_le _
  | x :: r,B,hn,h=>by
    obtain ⟨hx,hr⟩:=List.nodup_cons.1 hn
    have hB:=h x List.mem_cons_self
    have:=akd r (B.erase x) hr (fun y hy=>(List.mem_erase_of_ne (fun e=>hx (by rw [← e];exact hy))).2 (h y (List.mem_cons_of_mem _ hy)))
    have h2:=List.length_erase_of_mem hB
    have h3:=List.length_pos_of_mem hB
    rw [List.length_cons]
    omega
def inC (N : Nat) (c : Int) : Prop:=0 ≤ c∧c < (N : Int)
structure adI (bey : Int→List Int→Int) (oth : Int→List Int→List Int) (full : Int→Bool) (door : Int→List Int→Prop) (N : Nat) : Prop where
  other : ∀ c d,inC N c→full c = false→door c d→door c (oth c d)∧oth c d≠d∧∀ e,door c e→e = d ∨ e = oth c d
  beyond : ∀ c d,inC N c→door c d→bey c d = -1 ∨ (inC N (bey c d)∧bey c d≠c∧door (bey c d) d∧bey (bey c d) d = c)
section
variable (bey : Int→List Int→Int) (oth : Int→List Int→List Int)
def sq (c0 : Int) (d0 : List Int) : Nat→Int × List Int
  | 0=>(c0,d0)
  | k + 1=>(bey (sq c0 d0 k).1 (oth (sq c0 d0 k).1 (sq c0 d0 k).2),oth (sq c0 d0 k).1 (sq c0 d0 k).2)
variable {bey oth} {full : Int→Bool} {door : Int→List Int→Prop} {N : Nat} (h : adI bey oth full door N)
structure AY (bey : Int→List Int→Int) (full : Int→Bool) (door : Int→List Int→Prop) (N : Nat) (c0 : Int) (d0 : List Int) : Prop where
  door : 0 ≤ c0→inC N c0∧door c0 d0
  back : 0 ≤ c0→bey c0 d0 = -1 ∨ full (bey c0 d0) = true
include h
theorem alive {c0 : Int} {d0 : List Int} (b : AY bey full door N c0 d0) : ∀ k,(∀ i,i ≤ k→0 ≤ (sq bey oth c0 d0 i).1)→(∀ i,i < k→full (sq bey oth c0 d0 i).1 = false) →
    (∀ i,i ≤ k→inC N (sq bey oth c0 d0 i).1∧door (sq bey oth c0 d0 i).1 (sq bey oth c0 d0 i).2)∧∀ i j,i < j→j ≤ k→(sq bey oth c0 d0 i).1≠(sq bey oth c0 d0 j).1
  | 0,h1,_=>⟨fun i hi=>by
      have : i = 0:=by omega
      subst this
      exact b.door (h1 0 (Nat.le_refl _)),fun i j h2 h3=>by omega⟩
  | k + 1,h1,h2=>by
    obtain ⟨g1,g2⟩:=alive b k (fun i hi=>h1 i (by omega)) (fun i hi=>h2 i (by omega))
    have hf:=h2 k (Nat.lt_succ_self k)
    obtain ⟨gk1,gk2⟩:=g1 k (Nat.le_refl _)
    obtain ⟨o1,o2,o3⟩:=h.other _ _ gk1 hf gk2
    have hp:=h1 (k + 1) (Nat.le_refl _)
    have hb:=h.beyond _ _ gk1 o1
    have e1 : (sq bey oth c0 d0 (k + 1)).1 = bey (sq bey oth c0 d0 k).1 (oth (sq bey oth c0 d0 k).1 (sq bey oth c0 d0 k).2):=rfl
    have e2 : (sq bey oth c0 d0 (k + 1)).2 = oth (sq bey oth c0 d0 k).1 (sq bey oth c0 d0 k).2:=rfl
    rw [← e2] at hb o1 o2 o3
    rw [← e2] at e1
    rw [← e1] at hb
    rcases hb with hb|⟨b1,b2,b3,b4⟩
    · omega
    refine ⟨fun i hi=>?_,fun i j hij hj=>?_⟩
    · rcases Nat.lt_or_ge i (k + 1) with h3|h3
      · exact g1 i (by omega)
      · have : i = k + 1:=by omega
        subst this
        exact ⟨b1,b3⟩
    · rcases Nat.lt_or_ge j (k + 1) with h3|h3
      · exact g2 i j hij (by omega)
      · have : j = k + 1:=by omega
        subst this
        intro e
        rcases Nat.lt_or_ge i k with hik|hik
        · -- an elder room
          obtain ⟨gi1,gi2⟩:=g1 i (by omega)
          obtain ⟨p1,p2,p3⟩:=h.other _ _ gi1 (h2 i (by omega)) gi2
          rw [← e] at b3 b4
          rcases p3 _ b3 with e3|e3
          · cases i with
            | zero =>
              have e4 : bey c0 d0 = (sq bey oth c0 d0 k).1:=by
                rw [← b4,e3];rfl
              rcases b.back (h1 0 (by omega)) with e5|e5
              · have:=gk1.1;omega
              · rw [e4,hf] at e5;cases e5
            | succ i =>
              obtain ⟨gj1,gj2⟩:=g1 i (by omega);obtain ⟨q1,q2,q3⟩:=h.other _ _ gj1 (h2 i (by omega)) gj2;have e6 : (sq bey oth c0 d0 (i + 1)).1 = bey (sq bey oth c0 d0 i).1 (sq bey oth c0 d0 (i + 1)).2:=rfl;rcases h.beyond _ _ gj1 q1 with e7|⟨_,_,_,e8⟩
              · have e9 : (sq bey oth c0 d0 (i + 1)).1 = -1:=e7
                have:=gi1.1;omega
              · have e9 : bey (sq bey oth c0 d0 (i + 1)).1 (sq bey oth c0 d0 (i + 1)).2 = (sq bey oth c0 d0 i).1:=e8
                rw [← e3,b4] at e9;exact g2 i k (by omega) (Nat.le_refl _) e9.symm
          · have e4 : oth (sq bey oth c0 d0 i).1 (sq bey oth c0 d0 i).2 = (sq bey oth c0 d0 (i + 1)).2:=rfl
            rw [e4] at e3
            have e5 : (sq bey oth c0 d0 (i + 1)).1 = (sq bey oth c0 d0 k).1:=by
              rw [← b4,e3];rfl
            rcases Nat.lt_or_ge (i + 1) k with h6|h6
            · exact g2 (i + 1) k h6 (Nat.le_refl _) e5
            · have : i + 1 = k:=by omega
              rw [this] at e3;exact o2 e3
        · have : i = k:=by omega
          subst this;exact b2 e.symm
theorem short {c0 : Int} {d0 : List Int} (b : AY bey full door N c0 d0) (k : Nat) (h1 : ∀ i,i ≤ k→0 ≤ (sq bey oth c0 d0 i).1) (h2 : ∀ i,i < k→full (sq bey oth c0 d0 i).1 = false) : k + 1 ≤ N:=by
  obtain ⟨g1,g2⟩:=alive h b k h1 h2
  have hn : ((List.range (k + 1)).map fun i=>((sq bey oth c0 d0 i).1).toNat).Nodup:=by
    refine List.pairwise_map.2 (List.Pairwise.imp_of_mem ?_ List.pairwise_lt_range);intro a c ha hc hac e;have ha':=List.mem_range.1 ha;have hc':=List.mem_range.1 hc;have:=g2 a c hac (by omega);have x1:=h1 a (by omega);have x2:=h1 c (by omega);omega
  have:=akd _ (List.range N) hn (fun x hx=>by
    obtain ⟨i,hi,rfl⟩:=List.mem_map.1 hx;have hi:=List.mem_range.1 hi;have:=(g1 i (by omega)).1;unfold inC at this;exact List.mem_range.2 (by omega))
  rw [List.length_map,List.length_range,List.length_range] at this;exact this
theorem ends {c0 : Int} {d0 : List Int} (b : AY bey full door N c0 d0) : ∃ K,K ≤ N∧(∀ i,i < K→0 ≤ (sq bey oth c0 d0 i).1∧full (sq bey oth c0 d0 i).1 = false)∧((sq bey oth c0 d0 K).1 < 0 ∨ (0 ≤ (sq bey oth c0 d0 K).1∧full (sq bey oth c0 d0 K).1 = true)):=by
  refine Classical.byContradiction fun hno=>?_
  have hall : ∀ i,i ≤ N→0 ≤ (sq bey oth c0 d0 i).1∧full (sq bey oth c0 d0 i).1 = false:=fun i=>by
    induction i using Nat.strongRecOn with
    | _ i ih =>
      intro hi;refine Classical.byContradiction fun hc=>hno ⟨i,hi,fun j hj=>ih j hj (by omega),?_⟩
      rcases Int.lt_or_le (sq bey oth c0 d0 i).1 0 with h3|h3
      · exact .inl h3
      · refine .inr ⟨h3,?_⟩
        cases h4 : full (sq bey oth c0 d0 i).1 with
        | true=>rfl
        | false=>exact absurd ⟨h3,h4⟩ hc
  have:=short h b N (fun i hi=>(hall i hi).1) (fun i hi=>(hall i (by omega)).2);omega
end
end Go.Proofs.Ythaonijhfeemfaa.gF.Path
namespace Go.Proofs.Ythaonijhfeemfaa.gF
open Go.RowKit Go.Proofs.Ythaonijhfeemfaa.dL Go.Proofs.YthaonijhfeemfaaW.bU Go.Proofs.YthaonijhfeemfaaW.fB Go.Proofs.YthaonijhfeemfaaW.iw
set_option linter.unusedVariables false
set_option linter.unusedSimpArgs false
set_option maxRecDepth 100000
def bE : Nat→List (List Int)
  | 1=>[[0,1,2]]
  | 2=>[[0,1,2],[1,2,4],[1,3,4],[2,4,5]]
  | 3=>[[0,1,2],[1,2,4],[1,3,4],[2,4,5],[3,4,7],[3,6,7],[4,5,8],[4,7,8],[5,8,9]]
  | 4=>[[0,1,2],[1,2,4],[1,3,4],[2,4,5],[3,4,7],[3,6,7],[4,5,8],[4,7,8],[5,8,9],[6,7,11],[6,10,11],[7,8,12],[7,11,12],[8,9,13],[8,12,13],[9,13,14]]
  | 5=>[[0,1,2],[1,2,4],[1,3,4],[2,4,5],[3,4,7],[3,6,7],[4,5,8],[4,7,8],[5,8,9],[6,7,11],[6,10,11],[7,8,12],[7,11,12],[8,9,13],[8,12,13],[9,13,14],[10,11,16],[10,15,16],[11,12,17],[11,16,17],[12,13,18],[12,17,18],[13,14,19],[13,18,19],[14,19,20]]
  | 6=>[[0,1,2],[1,2,4],[1,3,4],[2,4,5],[3,4,7],[3,6,7],[4,5,8],[4,7,8],[5,8,9],[6,7,11],[6,10,11],[7,8,12],[7,11,12],[8,9,13],[8,12,13],[9,13,14],[10,11,16],[10,15,16],[11,12,17],[11,16,17],[12,13,18],[12,17,18],[13,14,19],[13,18,19],[14,19,20],[15,16,22],[15,21,22],[16,17,23],[16,22,23],[17,18,24],[17,23,24],[18,19,25],[18,24,25],[19,20,26],[19,25,26],[20,26,27]]
  | 7=>[[0,1,2],[1,2,4],[1,3,4],[2,4,5],[3,4,7],[3,6,7],[4,5,8],[4,7,8],[5,8,9],[6,7,11],[6,10,11],[7,8,12],[7,11,12],[8,9,13],[8,12,13],[9,13,14],[10,11,16],[10,15,16],[11,12,17],[11,16,17],[12,13,18],[12,17,18],[13,14,19],[13,18,19],[14,19,20],[15,16,22],[15,21,22],[16,17,23],[16,22,23],[17,18,24],[17,23,24],[18,19,25],[18,24,25],[19,20,26],[19,25,26],[20,26,27],[21,22,29],[21,28,29],[22,23,30],[22,29,30],[23,24,31],[23,30,31],[24,25,32],[24,31,32],[25,26,33],[25,32,33],[26,27,34],[26,33,34],[27,34,35]]
  | 8=>[[0,1,2],[1,2,4],[1,3,4],[2,4,5],[3,4,7],[3,6,7],[4,5,8],[4,7,8],[5,8,9],[6,7,11],[6,10,11],[7,8,12],[7,11,12],[8,9,13],[8,12,13],[9,13,14],[10,11,16],[10,15,16],[11,12,17],[11,16,17],[12,13,18],[12,17,18],[13,14,19],[13,18,19],[14,19,20],[15,16,22],[15,21,22],[16,17,23],[16,22,23],[17,18,24],[17,23,24],[18,19,25],[18,24,25],[19,20,26],[19,25,26],[20,26,27],[21,22,29],[21,28,29],[22,23,30],[22,29,30],[23,24,31],[23,30,31],[24,25,32],[24,31,32],[25,26,33],[25,32,33],[26,27,34],[26,33,34],[27,34,35],[28,29,37],[28,36,37],[29,30,38],[29,37,38],[30,31,39],[30,38,39],[31,32,40],[31,39,40],[32,33,41],[32,40,41],[33,34,42],[33,41,42],[34,35,43],[34,42,43],[35,43,44]]
  | _=>[]
def eP : Nat→List Int
  | 1=>[0,1,2]
  | 2=>[0,1,3,4,5,2]
  | 3=>[0,1,3,6,7,8,9,5,2]
  | 4=>[0,1,3,6,10,11,12,13,14,9,5,2]
  | 5=>[0,1,3,6,10,15,16,17,18,19,20,14,9,5,2]
  | 6=>[0,1,3,6,10,15,21,22,23,24,25,26,27,20,14,9,5,2]
  | 7=>[0,1,3,6,10,15,21,28,29,30,31,32,33,34,35,27,20,14,9,5,2]
  | 8=>[0,1,3,6,10,15,21,28,36,37,38,39,40,41,42,43,44,35,27,20,14,9,5,2]
  | _=>[]
theorem aoB : ((List.range 9).all fun n=>n == 0 || Jo n == bE n) = true:=by decide +kernel
theorem aoC : ((List.range 9).all fun n=>n == 0 || wU.f 120 (n : Int) == some (eP n)) = true:=by decide +kernel
def edges (c : List Int) : List (List Int):=[[rd c 0,rd c 1],[rd c 0,rd c 2],[rd c 1,rd c 2]]
def wth (C : List (List Int)) (x y : Int) : List Int:=withFn C x y C.length 0
def NM (C : List (List Int)) (m i : Nat) : Bool :=
  let c:=C.getD i []
  decide (c.length = 3) && decide (0 ≤ rd c 0) && decide (rd c 0 < rd c 1) && decide (rd c 1 < rd c 2) && decide (rd c 2 < (m : Int)) &&
    (edges c).all fun d=>match wth C (rd d 0) (rd d 1) with
      | [p]=>decide (p = (i : Int))
      | [p, q] => decide (p = (i : Int)) && decide (i < q.toNat) && decide (0 ≤ q) && decide (q.toNat < C.length) && (edges (C.getD q.toNat [])).contains d ||
          decide (q = (i : Int)) && decide (p.toNat < i) && decide (0 ≤ p) && decide (p.toNat < C.length) && (edges (C.getD p.toNat [])).contains d
      | _=>false
def uX (b : List Int) : List (List Int):=(List.range b.length).map fun (t : Nat)=>[rd b (t : Int),rd b (Int.ofNat ((t + 1) % b.length))]
def inner (s : List Int) : List Int:=[mn (rd s 0) (rd s 1),mx (rd s 0) (rd s 1)]
def RS (C : List (List Int)) (m : Nat) (s : List Int) : Bool :=
  decide (0 ≤ rd s 0) && decide (rd s 0 < (m : Int)) && decide (0 ≤ rd s 1) && decide (rd s 1 < (m : Int)) &&
    match wth C (rd (inner s) 0) (rd (inner s) 1) with
      | [p]=>decide (0 ≤ p) && decide (p.toNat < C.length) && (edges (C.getD p.toNat [])).contains (inner s)
      | _=>false
theorem geo : ((List.range 9).all fun n=>n == 0 || (decide ((bE n).length = n * n) && decide ((eP n).length = 3 * n) && ((List.range (n * n)).all (NM (bE n) (many n)) && (uX (eP n)).all (RS (bE n) (many n))))) = true:=by decide +kernel
section
variable {n : Nat} (h : Side n)
include h
theorem Side.tab {f : Nat→Bool} (hf : ((List.range 9).all fun n=>n == 0 || f n) = true) : f n = true:=by
  have a:=List.all_eq_true.1 hf n (by simp;have:=h.hi;omega);have z : (n == 0) = false:=by simp;have:=h.lo;omega
  rw [z,Bool.false_or] at a;exact a
theorem Side.bE : Jo n = bE n:=eq_of_beq (h.tab aoB)
theorem Side.abN : Ev (fun k=>bT.f k (n : Int)) (gF.bE n):=by rw [← h.bE];exact h.cells
theorem Side.cellsS : Ev (fun k=>cB.f k (n : Int)) (gF.bE n):=by rw [← h.bE];exact h.aq0
theorem Side.adJ : Ev (fun k=>wU.f k (n : Int)) (eP n):=Ev.of (fun k=>wU.mono _ k) (eq_of_beq (h.tab aoC))
theorem Side.geo : (gF.bE n).length = n * n∧(eP n).length = 3 * n∧(∀ i,i < n * n→NM (gF.bE n) (many n) i = true)∧∀ s ∈ uX (eP n),RS (gF.bE n) (many n) s = true:=by
  have a:=h.tab gF.geo;simp only [Bool.and_eq_true,decide_eq_true_eq] at a;exact ⟨a.1.1,a.1.2,fun i hi=>List.all_eq_true.1 a.2.1 i (List.mem_range.2 hi),fun s hs=>List.all_eq_true.1 a.2.2 s hs⟩
end
end Go.Proofs.Ythaonijhfeemfaa.gF
namespace Go.Proofs.Ythaonijhfeemfaa.gF
open Go.RowKit Go.Proofs.Ythaonijhfeemfaa.dL Go.Proofs.YthaonijhfeemfaaW.bU Go.Proofs.YthaonijhfeemfaaW.fB Go.Proofs.YthaonijhfeemfaaW.iw
set_option linter.unusedVariables false
set_option linter.unusedSimpArgs false
set_option maxRecDepth 100000
theorem aoD : ((List.range 9).all fun n=>n == 0 || gB.f 100 (n : Int) == some (eP n)) = true:=by decide +kernel
theorem Side.awr {n : Nat} (h : Side n) : Ev (fun k=>gB.f k (n : Int)) (eP n):=Ev.of (fun k=>gB.mono _ k) (eq_of_beq (h.tab aoD))
end Go.Proofs.Ythaonijhfeemfaa.gF
namespace Go.Proofs.Ythaonijhfeemfaa.gF
open Go.RowKit Go.Proofs.Ythaonijhfeemfaa.dL Go.Proofs.YthaonijhfeemfaaW.bU Go.Proofs.YthaonijhfeemfaaW.fB Go.Proofs.YthaonijhfeemfaaW.iw
set_option linter.unusedVariables false
set_option linter.unusedSimpArgs false
set_option maxRecDepth 100000
def dr (L : List Int) (d : List Int) : Bool:=decide (rd L (rd d 0) + rd L (rd d 1) = 1)
def jZ (L c : List Int) : List (List Int):=(edges c).filter (dr L)
def Gl (L c : List Int) : Bool:=decide (rd L (rd c 0)≠rd L (rd c 1)∧rd L (rd c 0)≠rd L (rd c 2)∧rd L (rd c 1)≠rd L (rd c 2))
structure Lbl (L : List Int) (m : Nat) : Prop where
  len : L.length = m
  small : m ≤ 1000
  ok : ∀ i : Int,0 ≤ i→i < (m : Int)→0 ≤ rd L i∧rd L i ≤ 2
structure Tri (c : List Int) (m : Nat) : Prop where
  len : c.length = 3
  lo : 0 ≤ rd c 0
  ab : rd c 0 < rd c 1
  bc : rd c 1 < rd c 2
  hi : rd c 2 < (m : Int)
theorem asC {L : List Int} {m : Nat} (hl : L.length = m) (hm : m ≤ 1000) (ho : okB L = true) : Lbl L m:=⟨hl,hm,fun i h0 h1=>by
  have hlt : i.toNat < L.length:=by omega
  have e : rd L i = L[i.toNat]:=by
    unfold rd;rw [List.getD_eq_getElem?_getD,List.getElem?_eq_getElem hlt];rfl
  rw [e];have:=List.all_eq_true.1 ho _ (List.getElem_mem hlt);exact of_decide_eq_true this⟩
theorem ahJ {c : List Int} {m : Nat} (hc : Tri c m) : ∀ e ∈ edges c,∃ x y,e = [x,y]∧(0 ≤ x∧x < (m : Int))∧(0 ≤ y∧y < (m : Int)):=fun e he=>by
  have h1:=hc.lo;have h2:=hc.ab;have h3:=hc.bc;have h4:=hc.hi;unfold edges at he;simp only [List.mem_cons,List.not_mem_nil,or_false] at he;rcases he with e1|e1|e1
  · exact ⟨_,_,e1,by omega,by omega⟩
  · exact ⟨_,_,e1,by omega,by omega⟩
  · exact ⟨_,_,e1,by omega,by omega⟩
theorem ahp {x y z : Int} (hx : 0 ≤ x∧x ≤ 2) (hy : 0 ≤ y∧y ≤ 2) (hz : 0 ≤ z∧z ≤ 2) : (Go.bits .or .i64 (Go.bits .or .i64 (shl .i64 1 x) (shl .i64 1 y)) (shl .i64 1 z) == 7) = decide (x≠y∧x≠z∧y≠z)∧(Go.bits .or .i64 (Go.bits .or .i64 (Go.bits .or .i64 0 (shl .i64 1 x)) (shl .i64 1 y)) (shl .i64 1 z) == 7) = decide (x≠y∧x≠z∧y≠z):=by
  have h1 : x = 0 ∨ x = 1 ∨ x = 2:=by omega
  have h2 : y = 0 ∨ y = 1 ∨ y = 2:=by omega
  have h3 : z = 0 ∨ z = 1 ∨ z = 2:=by omega
  rcases h1 with rfl|rfl|rfl <;> rcases h2 with rfl|rfl|rfl <;> rcases h3 with rfl|rfl|rfl <;> decide
section
variable {L : List Int} {m : Nat} (hL : Lbl L m)
include hL
theorem ahq (a0 : Int) (C : List (List Int)) (B : List Int) {i j : Int} (hi : 0 ≤ i∧i < (m : Int)) (hj : 0 ≤ j∧j < (m : Int)) : yV.f a0 L C B i j = some (dr L [i,j]):=by
  have h1:=hL.ok i hi.1 hi.2;have h2:=hL.ok j hj.1 hj.2;have hl:=hL.len;unfold yV.f dr;rw [if_pos hi.1,if_pos (by omega),if_pos hj.1,if_pos (by omega),show rd [i,j] 0 = i from rfl,show rd [i,j] 1 = j from rfl];by_cases e : rd L i = rd L j
  · rw [if_pos e,decide_eq_false (by omega)]
  · rw [if_neg e]
    by_cases e2 : rd L i < 2
    · rw [if_pos e2]
      congr 1;rw [decide_eq_decide];omega
    · rw [if_neg e2,decide_eq_false (by omega)]
theorem ahr {i j : Int} (hi : 0 ≤ i∧i < (m : Int)) (hj : 0 ≤ j∧j < (m : Int)) : yZ.f L i j = some (dr L [i,j]):=by
  have h1:=hL.ok i hi.1 hi.2;have h2:=hL.ok j hj.1 hj.2;have hl:=hL.len;unfold yZ.f dr;rw [if_pos hi.1,if_pos (by omega),if_pos hj.1,if_pos (by omega),wr (by omega) (by omega)];congr 1
theorem agR (a0 : Int) (C : List (List Int)) (B : List Int) (E : List (List Int)) (hE : E.length ≤ 1000) (hp : ∀ e ∈ E,∃ x y,e = [x,y]∧(0 ≤ x∧x < (m : Int))∧(0 ≤ y∧y < (m : Int))) :
    ∀ (d i : Nat) (acc : List (List Int)),i + d = E.length→acc.length ≤ 10000 + i→Ev (fun k=>dV.l0 k acc E (E.length : Int) (i : Int) a0 L C B) (acc ++ (E.drop i).filter (dr L))
  | 0,i,acc,h,_=>Ev.step (fun f=>dV.l0.eq_2 ..) (aK (by omega) (jD (Ev.now _) (by rw [List.drop_eq_nil_of_le (by omega)];simp)))
  | d + 1,i,acc,h,ha=>by
    have hlt : i < E.length:=by omega
    obtain ⟨x,y,e,hx,hy⟩:=hp _ (List.getElem_mem hlt)
    have er : ah E (i : Int) = [x,y]:=by unfold ah;rw [Int.toNat_natCast,List.getD_eq_getElem?_getD,List.getElem?_eq_getElem hlt,e];rfl
    have ih:=fun acc' hacc=>agR a0 C B E hE hp d (i + 1) acc' (by omega) hacc
    refine Ev.step (fun f=>dV.l0.eq_2 ..) (au (by omega) (au (by omega) (au (by omega) ?_)))
    rw [er]
    refine au (by simp) (au (by simp) (dU (ahq hL a0 C B (i:=rd [x,y] 0) (j:=rd [x,y] 1) hx hy) ?_))
    rw [wr (by omega) (by omega),List.drop_eq_getElem_cons hlt,e,List.filter_cons]
    show Ev (fun k=>if dr L [x,y] = true then _ else _) _
    by_cases hd : dr L [x,y] = true
    · rw [if_pos hd]
      refine au hd (au (by omega) ?_)
      have:=ih (acc ++ [[x,y]]) (by simp;omega)
      rw [List.append_assoc] at this
      exact this
    · rw [if_neg hd]
      exact aK hd (ih acc (by omega))
theorem Zl (a0 : Int) (C : List (List Int)) (B : List Int) {ci : Int} (h0 : 0 ≤ ci) (h1 : ci < (C.length : Int)) (hc : Tri (C.getD ci.toNat []) m) : Ev (fun k=>dV.f k a0 L C B ci) (jZ L (C.getD ci.toNat [])):=by
  have hl:=hc.len;have er : ah C ci = C.getD ci.toNat []:=rfl;unfold dV.f;rw [er];refine au h0 (au h1 (au (by omega) (au (by omega) (au (by omega) (dU rfl ?_)))));have:=agR hL a0 C B (edges (C.getD ci.toNat [])) (by simp [edges]) (ahJ hc) 3 0 [] rfl (by simp);rw [List.nil_append,List.drop_zero] at this;exact this
theorem PN (c : List Int) (xa xi : Int) (hxa : 0 ≤ xa∧xa < (m : Int)) (R : List Int) (hR : R.length ≤ 100) (hp : ∀ y ∈ R,0 ≤ y∧y < (m : Int)) (r : List (List Int)) : ∀ (d i : Nat) (acc : List (List Int)),i + d = R.length→acc.length ≤ 10000 + i →
    Ev (fun k=>fD.l0 k L c (acc ++ ((R.drop i).map fun b=>[xa,b]).filter (dr L)) c (c.length : Int) (wrap64 (xi + 1))) r→Ev (fun k=>fD.l1 k L c acc xa c (c.length : Int) xi R (R.length : Int) (i : Int)) r
  | 0,i,acc,h,ha,cont=>by
    rw [List.drop_eq_nil_of_le (by omega),List.map_nil,List.filter_nil,List.append_nil] at cont
    exact Ev.step (fun f=>fD.l1.eq_2 ..) (aK (by omega) cont)
  | d + 1,i,acc,h,ha,cont=>by
    have hlt : i < R.length:=by omega
    have e : rd R (i : Int) = R[i]:=uF hlt
    have hy:=hp _ (List.getElem_mem hlt)
    rw [List.drop_eq_getElem_cons hlt,List.map_cons,List.filter_cons] at cont
    refine Ev.step (fun f=>fD.l1.eq_2 ..) (au (by omega) (au (by omega) (au (by omega) ?_)))
    rw [e,wr (by omega) (by omega)]
    refine dU (ahr hL hxa hy) ?_
    by_cases hd : dr L [xa,R[i]] = true
    · rw [if_pos hd] at cont
      refine au hd (au (by omega) (PN c xa xi hxa R hR hp r d (i + 1) (acc ++ [[xa,R[i]]]) (by omega) (by simp;omega) ?_))
      rw [List.append_assoc];exact cont
    · rw [if_neg hd] at cont
      exact aK hd (PN c xa xi hxa R hR hp r d (i + 1) acc (by omega) (by omega) cont)
theorem Zm {c : List Int} (hc : Tri c m) : Ev (fun k=>fD.f k L c) (jZ L c):=by
  have hl:=hc.len;have h1:=hc.lo;have h2:=hc.ab;have h3:=hc.bc;have h4:=hc.hi
  obtain ⟨x,y,z,rfl⟩ : ∃ x y z,c = [x,y,z]:=by
    match c,hl with
    | [x,y,z],_=>exact ⟨x,y,z,rfl⟩
  have e0 : rd [x,y,z] 0 = x:=rfl;have e1 : rd [x,y,z] 1 = y:=rfl;have e2 : rd [x,y,z] 2 = z:=rfl;rw [e0] at h1;rw [e0,e1] at h2;rw [e1,e2] at h3;rw [e2] at h4;unfold fD.f;refine Ev.step (fun f=>fD.l0.eq_2 ..) (au (by simp) (au (by simp) (au (by simp) ?_)));rw [w01];refine au (by simp) (au (by simp) ?_);refine PN hL [x,y,z] x 0 (by omega) [y,z] (by simp) (fun v hv=>by simp at hv;omega) _ 2 0 [] rfl (by simp) ?_;rw [w01];refine Ev.step (fun f=>fD.l0.eq_2 ..) (au (by simp) (au (by simp) (au (by simp) ?_)));rw [w12];refine au (by simp) (au (by simp) ?_)
  have hlen : ∀ l : List Int,(([] : List (List Int)) ++ (l.map fun b=>[x,b]).filter (dr L)).length ≤ l.length:=fun l=>by
    rw [List.nil_append];exact Nat.le_trans (List.length_filter_le _ _) (by simp)
  have hl2:=hlen (List.drop 0 [y,z]);refine PN hL [x,y,z] y 1 (by omega) [z] (by simp) (fun v hv=>by simp at hv;omega) _ 1 0 _ rfl (Nat.le_trans hl2 (by simp)) ?_;rw [w12];refine Ev.step (fun f=>fD.l0.eq_2 ..) (au (by simp) (au (by simp) (au (by simp) ?_)));rw [w23];refine au (by simp) (au (by simp) ?_);refine PN hL [x,y,z] z 2 (by omega) [] (by simp) (fun v hv=>by cases hv) _ 0 0 _ rfl ?_ ?_
  · have:=List.length_filter_le (dr L) ((List.drop 0 [z]).map fun b=>[y,b])
    rw [List.length_append];simp at this hl2 ⊢;omega
  rw [w23];refine Ev.step (fun f=>fD.l0.eq_2 ..) (aK (by simp) (jD (Ev.now _) ?_));unfold jZ edges;rw [e0,e1,e2];simp only [List.drop_zero,List.map_cons,List.map_nil,List.filter_cons,List.filter_nil,List.nil_append];cases dr L [x,y] <;> cases dr L [x,z] <;> cases dr L [y,z] <;> rfl
theorem Vp (a0 : Int) (C : List (List Int)) (B : List Int) {ci : Int} (h0 : 0 ≤ ci) (h1 : ci < (C.length : Int)) (hc : Tri (C.getD ci.toNat []) m) : vM.f a0 L C B ci = some (Gl L (C.getD ci.toNat [])):=by
  have hl:=hc.len;have g1:=hc.lo;have g2:=hc.ab;have g3:=hc.bc;have g4:=hc.hi;have hll:=hL.len;have er : ah C ci = C.getD ci.toNat []:=rfl;unfold vM.f;rw [er];generalize C.getD ci.toNat [] = c at *;have r0:=hL.ok (rd c 0) (by omega) (by omega);have r1:=hL.ok (rd c 1) (by omega) (by omega);have r2:=hL.ok (rd c 2) (by omega) (by omega);rw [if_pos h0,if_pos h1,if_pos (by omega),if_pos (by omega),if_pos (by omega),if_pos (by omega),if_pos (by omega),if_pos (by omega),if_pos (by omega),if_pos (by omega),if_pos (by omega),if_pos (by omega),if_pos (by omega),if_pos (by omega)];rw [(ahp r0 r1 r2).1];rfl
theorem PO {c : List Int} (hc : Tri c m) : Ev (fun k=>eT.f k L c) (Gl L c):=by
  have hl:=hc.len;have g1:=hc.lo;have g2:=hc.ab;have g3:=hc.bc;have g4:=hc.hi;have hll:=hL.len;have r0:=hL.ok (rd c 0) (by omega) (by omega);have r1:=hL.ok (rd c 1) (by omega) (by omega);have r2:=hL.ok (rd c 2) (by omega) (by omega);unfold eT.f;refine Ev.step (fun f=>eT.l0.eq_2 ..) (au (by omega) (au (by omega) (au (by omega) (au (by omega) (au (by omega) (au (by omega) ?_))))));rw [w01];refine Ev.step (fun f=>eT.l0.eq_2 ..) (au (by omega) (au (by omega) (au (by omega) (au (by omega) (au (by omega) (au (by omega) ?_))))));rw [w12];refine Ev.step (fun f=>eT.l0.eq_2 ..) (au (by omega) (au (by omega) (au (by omega) (au (by omega) (au (by omega) (au (by omega) ?_))))));rw [w23];refine Ev.step (fun f=>eT.l0.eq_2 ..) (aK (by omega) (jD (Ev.now _) ?_));rw [(ahp r0 r1 r2).2];rfl
end
def fb : List Int→Int→Int
  | [],_=>-1
  | p :: r,c=>if p = c then fb r c else p
theorem agS (W : List Int) (hW : W.length ≤ 1000) (c : Int) : ∀ d i : Nat,i + d = W.length→Ev (fun k=>iD.l0 k c W (W.length : Int) (i : Int)) (fb (W.drop i) c)
  | 0,i,h=>Ev.step (fun f=>iD.l0.eq_2 ..) (aK (by omega) (jD (Ev.now _) (by rw [List.drop_eq_nil_of_le (by omega)];rfl)))
  | d + 1,i,h=>by
    have hlt : i < W.length:=by omega
    refine Ev.step (fun f=>iD.l0.eq_2 ..) (au (by omega) (au (by omega) (au (by omega) ?_)))
    rw [uF hlt,wr (by omega) (by omega),List.drop_eq_getElem_cons hlt,fb]
    by_cases e : W[i] = c
    · rw [if_pos e];exact au e (agS W hW c d (i + 1) (by omega))
    · rw [if_neg e];exact aK e (Ev.now _)
theorem ahs (W : List Int) (hW : W.length ≤ 1000) (c : Int) : ∀ d i : Nat,i + d = W.length→Ev (fun k=>ig.l0 k c W (W.length : Int) (i : Int)) (fb (W.drop i) c)
  | 0,i,h=>Ev.step (fun f=>ig.l0.eq_2 ..) (aK (by omega) (jD (Ev.now _) (by rw [List.drop_eq_nil_of_le (by omega)];rfl)))
  | d + 1,i,h=>by
    have hlt : i < W.length:=by omega
    refine Ev.step (fun f=>ig.l0.eq_2 ..) (au (by omega) (au (by omega) (au (by omega) ?_)))
    rw [uF hlt,wr (by omega) (by omega),List.drop_eq_getElem_cons hlt,fb]
    by_cases e : W[i] = c
    · rw [if_pos e];exact au e (ahs W hW c d (i + 1) (by omega))
    · rw [if_neg e];exact aK e (Ev.now _)
def bey (C : List (List Int)) (c : Int) (d : List Int) : Int:=fb (wth C (rd d 0) (rd d 1)) c
theorem PS {C : List (List Int)} (hl : C.length ≤ 100) (he : ∀ c ∈ C,c.length = 3) (a0 : Int) (L B : List Int) (c : Int) {d : List Int} (hd : d.length = 2) : Ev (fun k=>iD.f k a0 L C B c d) (bey C c d):=by
  have hw:=Zf C (rd d 0) (rd d 1) C.length 0;refine au (by omega) (au (by omega) (Ev.bind (aq2 C (rd d 0) (rd d 1) (by omega) he) ?_));exact agS (wth C (rd d 0) (rd d 1)) (Nat.le_trans hw (by omega)) c (wth C (rd d 0) (rd d 1)).length 0 (by omega)
theorem P6 {C : List (List Int)} (hl : C.length ≤ 100) (he : ∀ c ∈ C,c.length = 3) (c : Int) {d : List Int} (hd : d.length = 2) : Ev (fun k=>ig.f k C d c) (bey C c d):=by
  have hw:=Zf C (rd d 0) (rd d 1) C.length 0;refine au (by omega) (au (by omega) (Ev.bind (aoA C (rd d 0) (rd d 1) (by omega) he) ?_));exact ahs (wth C (rd d 0) (rd d 1)) (Nat.le_trans hw (by omega)) c (wth C (rd d 0) (rd d 1)).length 0 (by omega)
theorem drop_eq {a b : List Int} (hl : a.length = b.length) {i : Nat} (hi : i < a.length) : (a.drop i = b.drop i) ↔ (rd a (i : Int) = rd b (i : Int)∧a.drop (i + 1) = b.drop (i + 1)):=by
  rw [List.drop_eq_getElem_cons hi,List.drop_eq_getElem_cons (show i < b.length by omega),List.cons.injEq,uF hi,uF (show i < b.length by omega)]
theorem ag6 (a b : List Int) (hl : a.length = b.length) (hs : a.length ≤ 1000000) : ∀ d i : Nat,i + d = a.length→Ev (fun k=>jA.l0 k a b (a.length : Int) (i : Int)) (decide (a.drop i = b.drop i))
  | 0,i,h=>Ev.step (fun f=>jA.l0.eq_2 ..) (aK (by omega) (jD (Ev.now _) (by rw [List.drop_eq_nil_of_le (by omega),List.drop_eq_nil_of_le (by omega)];rfl)))
  | d + 1,i,h=>by
    have hd:=drop_eq hl (show i < a.length by omega)
    refine Ev.step (fun f=>jA.l0.eq_2 ..) (au (by omega) (au (by omega) (au (by omega) (au (by omega) ?_))))
    rw [wr (by omega) (by omega)]
    by_cases e : rd a (i : Int) = rd b (i : Int)
    · exact au e (jD (ag6 a b hl hs d (i + 1) (by omega)) (by rw [decide_eq_decide];exact ⟨fun z=>hd.2 ⟨e,z⟩,fun z=>(hd.1 z).2⟩))
    · exact aK e (jD (Ev.now _) (by rw [decide_eq_false (fun z=>e (hd.1 z).1)]))
theorem Zw (a b : List Int) (hs : a.length ≤ 1000000) : Ev (fun k=>jA.f k a b) (decide (a = b)):=by
  by_cases hl : a.length = b.length
  · have:=ag6 a b hl hs a.length 0 (by omega)
    rw [List.drop_zero,List.drop_zero] at this;exact au (by omega) this
  · exact aK (by omega) (jD (Ev.now _) (decide_eq_false (fun z=>hl (by rw [z]))).symm)
theorem aht (a b : List Int) (hl : a.length = b.length) (hs : a.length ≤ 1000000) : ∀ d i : Nat,i + d = a.length→Ev (fun k=>jk.l0 k a b (a.length : Int) (i : Int)) (decide (a.drop i = b.drop i))
  | 0,i,h=>Ev.step (fun f=>jk.l0.eq_2 ..) (aK (by omega) (jD (Ev.now _) (by rw [List.drop_eq_nil_of_le (by omega),List.drop_eq_nil_of_le (by omega)];rfl)))
  | d + 1,i,h=>by
    have hd:=drop_eq hl (show i < a.length by omega)
    refine Ev.step (fun f=>jk.l0.eq_2 ..) (au (by omega) (au (by omega) (au (by omega) (au (by omega) ?_))))
    rw [wr (by omega) (by omega)]
    by_cases e : rd a (i : Int) = rd b (i : Int)
    · exact au e (jD (aht a b hl hs d (i + 1) (by omega)) (by rw [decide_eq_decide];exact ⟨fun z=>hd.2 ⟨e,z⟩,fun z=>(hd.1 z).2⟩))
    · exact aK e (jD (Ev.now _) (by rw [decide_eq_false (fun z=>e (hd.1 z).1)]))
theorem aaX (a b : List Int) (hs : a.length ≤ 1000000) : Ev (fun k=>jk.f k a b) (decide (a = b)):=by
  by_cases hl : a.length = b.length
  · have:=aht a b hl hs a.length 0 (by omega)
    rw [List.drop_zero,List.drop_zero] at this;exact au (by omega) this
  · exact aK (by omega) (jD (Ev.now _) (decide_eq_false (fun z=>hl (by rw [z]))).symm)
def fo : List (List Int)→List Int→List Int
  | [],_=>[]
  | e :: r,d=>if e = d then fo r d else e
theorem ag7 (E : List (List Int)) (hE : E.length ≤ 1000) (he : ∀ e ∈ E,e.length ≤ 1000) (d : List Int) : ∀ q i : Nat,i + q = E.length→Ev (fun k=>mq.l0 k d E (E.length : Int) (i : Int)) (fo (E.drop i) d)
  | 0,i,h=>Ev.step (fun f=>mq.l0.eq_2 ..) (aK (by omega) (jD (Ev.now _) (by rw [List.drop_eq_nil_of_le (by omega)];rfl)))
  | q + 1,i,h=>by
    have hlt : i < E.length:=by omega
    have er : ah E (i : Int) = E[i]:=by unfold ah;rw [Int.toNat_natCast,List.getD_eq_getElem?_getD,List.getElem?_eq_getElem hlt];rfl
    have hl:=he _ (List.getElem_mem hlt)
    refine Ev.step (fun f=>mq.l0.eq_2 ..) (au (by omega) (au (by omega) (au (by omega) ?_)))
    rw [er,wr (by omega) (by omega),List.drop_eq_getElem_cons hlt,fo]
    refine Ev.bind (Zw _ _ (by omega)) ?_
    by_cases e : E[i] = d
    · rw [if_pos e];exact au (decide_eq_true e) (ag7 E hE he d q (i + 1) (by omega))
    · rw [if_neg e];exact aK (by rw [decide_eq_false e];decide) (Ev.now _)
end Go.Proofs.Ythaonijhfeemfaa.gF
namespace Go.Proofs.Ythaonijhfeemfaa.gF
open Go.RowKit Go.Proofs.Ythaonijhfeemfaa.dL Go.Proofs.YthaonijhfeemfaaW.bU Go.Proofs.YthaonijhfeemfaaW.fB Go.Proofs.YthaonijhfeemfaaW.iw
set_option linter.unusedVariables false
set_option linter.unusedSimpArgs false
set_option maxRecDepth 100000
structure Home (n : Nat) (L : List Int) : Prop where
  side : Side n
  lbl : Lbl L (many n)
def cl (n : Nat) (c : Int) : List Int:=(bE n).getD c.toNat []
def iN (n : Nat) (L : List Int) (c : Int) : Bool:=Gl L (cl n c)
def nP (n : Nat) (L : List Int) (c : Int) (d : List Int) : Prop:=d ∈ jZ L (cl n c)
def Gm (n : Nat) (L : List Int) (c : Int) (d : List Int) : List Int:=fo (jZ L (cl n c)) d
def dK (n : Nat) (c : Int) (d : List Int) : Int:=bey (bE n) c d
theorem getD_lt {l : List (List Int)} {i : Nat} (h : i < l.length) : l.getD i [] ∈ l:=by
  rw [List.getD_eq_getElem?_getD,List.getElem?_eq_getElem h];exact List.getElem_mem h
section
variable {n : Nat} {L : List Int} (H : Home n L)
include H
theorem Home.nn : n * n ≤ 64:=Nat.le_trans (Nat.mul_le_mul H.side.hi H.side.hi) (by decide)
theorem Home.len : (bE n).length = n * n:=H.side.geo.1
theorem Home.Dn : (bE n).length ≤ 100:=by rw [H.len];have:=H.nn;omega
theorem Home.cell {c : Int} (hc : Path.inC (n * n) c) : NM (bE n) (many n) c.toNat = true:=H.side.geo.2.2.1 _ (by unfold Path.inC at hc;omega)
theorem Home.tri {c : Int} (hc : Path.inC (n * n) c) : Tri (cl n c) (many n):=by
  have a:=H.cell hc;unfold NM at a;simp only [Bool.and_eq_true,decide_eq_true_eq] at a;exact ⟨a.1.1.1.1.1,a.1.1.1.1.2,a.1.1.1.2,a.1.1.2,a.1.2⟩
theorem Home.three : ∀ c ∈ bE n,c.length = 3:=fun c hc=>by
  obtain ⟨i,hi,e⟩:=List.getElem_of_mem hc;have:=(H.tri (c:=(i : Int)) (by unfold Path.inC;rw [← H.len];omega)).len;unfold cl at this;rw [Int.toNat_natCast,List.getD_eq_getElem?_getD,List.getElem?_eq_getElem hi] at this;rw [← e];exact this
theorem Home.range {c : Int} (hc : Path.inC (n * n) c) : 0 ≤ c∧c < ((bE n).length : Int):=by rw [H.len];exact hc
theorem Home.two {c : Int} (hc : Path.inC (n * n) c) {d : List Int} (hd : nP n L c d) : d.length = 2:=by
  unfold nP jZ at hd;obtain ⟨x,y,e,_⟩:=ahJ (H.tri hc) d (List.mem_filter.1 hd).1;rw [e];rfl
theorem Home.azy {c : Int} {d : List Int} (hc : Path.inC (n * n) c) (hf : iN n L c = false) (hd : nP n L c d) : nP n L c (Gm n L c d)∧Gm n L c d≠d∧∀ e,nP n L c e→e = d ∨ e = Gm n L c d:=by
    have T:=H.tri hc;unfold iN at hf;unfold nP Gm at *;generalize cl n c = w at *;have g1:=T.lo;have g2:=T.ab;have g3:=T.bc;have g4:=T.hi;have r0:=H.lbl.ok (rd w 0) (by omega) (by omega);have r1:=H.lbl.ok (rd w 1) (by omega) (by omega);have r2:=H.lbl.ok (rd w 2) (by omega) (by omega);have nf : ¬ (rd L (rd w 0)≠rd L (rd w 1)∧rd L (rd w 0)≠rd L (rd w 2)∧rd L (rd w 1)≠rd L (rd w 2)):=of_decide_eq_false hf;have n1 : ([rd w 0,rd w 1] : List Int)≠[rd w 0,rd w 2]:=fun e=>by simp at e;omega
    have n2 : ([rd w 0,rd w 1] : List Int)≠[rd w 1,rd w 2]:=fun e=>by simp at e;omega
    have n3 : ([rd w 0,rd w 2] : List Int)≠[rd w 1,rd w 2]:=fun e=>by simp at e;omega
    have d1 : dr L [rd w 0,rd w 1] = decide (rd L (rd w 0) + rd L (rd w 1) = 1):=rfl;have d2 : dr L [rd w 0,rd w 2] = decide (rd L (rd w 0) + rd L (rd w 2) = 1):=rfl;have d3 : dr L [rd w 1,rd w 2] = decide (rd L (rd w 1) + rd L (rd w 2) = 1):=rfl
    have two : ∀ X Y : List Int,X≠Y→d ∈ [X,Y]→fo [X,Y] d ∈ [X,Y]∧fo [X,Y] d≠d∧∀ e,e ∈ [X,Y]→e = d ∨ e = fo [X,Y] d:=fun X Y hne hm=>by
      rcases List.mem_cons.1 hm with e|e
      · subst e
        have : fo [d,Y] d = Y:=by simp [fo,hne.symm]
        rw [this];exact ⟨by simp,hne.symm,fun e he=>by simpa using he⟩
      · have e:=List.mem_singleton.1 e
        subst e;have : fo [X,d] d = X:=by simp [fo,hne]
        rw [this]
        exact ⟨by simp, hne, fun e he => by rcases List.mem_cons.1 he with h | h; · exact .inr h
                                            · exact .inl (List.mem_singleton.1 h)⟩
    by_cases h1 : rd L (rd w 0) + rd L (rd w 1) = 1
    · by_cases h2 : rd L (rd w 0) + rd L (rd w 2) = 1
      · have h3 : ¬ rd L (rd w 1) + rd L (rd w 2) = 1:=by omega
        have E : jZ L w = [[rd w 0,rd w 1],[rd w 0,rd w 2]]:=by simp [jZ,edges,List.filter_cons,d1,d2,d3,h1,h2,h3]
        rw [E] at hd ⊢;exact two _ _ n1 hd
      · have h3 : rd L (rd w 1) + rd L (rd w 2) = 1:=by omega
        have E : jZ L w = [[rd w 0,rd w 1],[rd w 1,rd w 2]]:=by simp [jZ,edges,List.filter_cons,d1,d2,d3,h1,h2,h3]
        rw [E] at hd ⊢;exact two _ _ n2 hd
    · by_cases h2 : rd L (rd w 0) + rd L (rd w 2) = 1
      · have h3 : rd L (rd w 1) + rd L (rd w 2) = 1:=by omega
        have E : jZ L w = [[rd w 0,rd w 2],[rd w 1,rd w 2]]:=by simp [jZ,edges,List.filter_cons,d1,d2,d3,h1,h2,h3]
        rw [E] at hd ⊢;exact two _ _ n3 hd
      · have h3 : ¬ rd L (rd w 1) + rd L (rd w 2) = 1:=by omega
        have E : jZ L w = []:=by simp [jZ,edges,List.filter_cons,d1,d2,d3,h1,h2,h3]
        rw [E] at hd;cases hd
theorem Home.azz {c : Int} {d : List Int} (hc : Path.inC (n * n) c) (hd : nP n L c d) : dK n c d = -1 ∨ (Path.inC (n * n) (dK n c d)∧dK n c d≠c∧nP n L (dK n c d) d∧dK n (dK n c d) d = c):=by
    have a:=H.cell hc;unfold nP jZ at hd;obtain ⟨he,hdr⟩:=List.mem_filter.1 hd;unfold NM at a;simp only [Bool.and_eq_true] at a;have b:=List.all_eq_true.1 a.2 d he;have hn:=H.len;have hc':=hc;unfold Path.inC at hc';unfold dK bey;have here : ((c.toNat : Nat) : Int) = c:=by omega
    have alX : ∀ q : Int,(edges ((bE n).getD q.toNat [])).contains d = true→nP n L q d:=fun q hq=>by
      unfold nP jZ cl;exact List.mem_filter.2 ⟨List.contains_iff_mem.1 hq,hdr⟩
    revert b;generalize wth (bE n) (rd d 0) (rd d 1) = W;intro b;match W,b with
    | [p],b =>
      have e : p = c:=by have:=of_decide_eq_true b;omega
      exact .inl (by simp [fb,e])
    | [p,q],b =>
      simp only [Bool.or_eq_true,Bool.and_eq_true,decide_eq_true_eq] at b;rcases b with b|b
      · obtain ⟨⟨⟨⟨b1,b2⟩,b3⟩,b4⟩,b5⟩:=b
        have e1 : p = c:=by omega
        have e2 : q≠c:=by omega
        subst e1;have x1 : fb [p,q] p = q:=by simp [fb,e2]
        have x2 : fb [p,q] q = p:=by simp [fb,e2.symm]
        rw [x1,x2];exact .inr ⟨⟨b3,by omega⟩,e2,alX q b5,rfl⟩
      · obtain ⟨⟨⟨⟨b1,b2⟩,b3⟩,b4⟩,b5⟩:=b
        have e1 : q = c:=by omega
        have e2 : p≠c:=by omega
        subst e1;have x1 : fb [p,q] q = p:=by simp [fb,e2]
        have x2 : fb [p,q] p = q:=by simp [fb,e2.symm]
        rw [x1,x2];exact .inr ⟨⟨b3,by omega⟩,e2,alX p b5,rfl⟩
theorem Home.house : Path.adI (dK n) (Gm n L) (iN n L) (nP n L) (n * n):=⟨fun c d hc hf hd=>H.azy hc hf hd,fun c d hc hd=>H.azz hc hd⟩
end
section
variable {n : Nat} {L : List Int} (H : Home n L) (c0 : Int) (d0 : List Int)
def at_ (n : Nat) (L : List Int) (c0 : Int) (d0 : List Int) (i : Nat) : Int × List Int:=Path.sq (dK n) (Gm n L) c0 d0 i
def vis (n : Nat) (L : List Int) (c0 : Int) (d0 : List Int) (k : Nat) : List Int:=(List.range k).map fun i=>(at_ n L c0 d0 i).1
theorem aaY (k : Nat) : (vis n L c0 d0 k).length = k:=by unfold vis;rw [List.length_map,List.length_range]
theorem Fg (k : Nat) : vis n L c0 d0 (k + 1) = vis n L c0 d0 k ++ [(at_ n L c0 d0 k).1]:=by unfold vis;rw [List.range_succ,List.map_append];rfl
include H
theorem Home.other {a0 : Int} {B : List Int} {c : Int} (hc : Path.inC (n * n) c) {d : List Int} (hd : nP n L c d) : Ev (fun k=>mq.f k a0 L (bE n) B c d) (Gm n L c d):=by
  have r:=H.range hc;refine Ev.bind (Zl H.lbl a0 (bE n) B r.1 r.2 (H.tri hc)) ?_;refine ag7 _ (Nat.le_trans (List.length_filter_le _ _) (by simp [edges])) (fun e he=>?_) d _ 0 (Nat.zero_add _);rw [H.two hc he];omega
theorem Home.bound {k : Nat} (hk : k ≤ n * n) : (vis n L c0 d0 k).length ≤ 64:=by rw [aaY];exact Nat.le_trans hk H.nn
theorem Home.adK (b : Path.AY (dK n) (iN n L) (nP n L) (n * n) c0 d0) {K : Nat} (hK : K ≤ n * n) (hw : ∀ i,i < K→0 ≤ (at_ n L c0 d0 i).1∧iN n L (at_ n L c0 d0 i).1 = false) (a0 : Int) (B : List Int) {r : List Int × List Int × Bool}
    (hr : Ev (fun k=>iV.l0 k (at_ n L c0 d0 K).1 (at_ n L c0 d0 K).2 (vis n L c0 d0 K) a0 L (bE n) B) r) : ∀ j i,i + j = K→Ev (fun k=>iV.l0 k (at_ n L c0 d0 i).1 (at_ n L c0 d0 i).2 (vis n L c0 d0 i) a0 L (bE n) B) r
  | 0,i,h=>by
    have : i = K:=h
    subst this
    exact hr
  | j + 1,i,h=>by
    obtain ⟨g1,_⟩:=Path.alive H.house b i (fun t ht=>(hw t (by omega)).1) (fun t ht=>(hw t (by omega)).2)
    obtain ⟨hc,hd⟩:=g1 i (Nat.le_refl _)
    obtain ⟨h0,hf⟩:=hw i (by omega)
    have rg:=H.range hc
    have bd:=H.bound c0 d0 (k:=i) (by omega)
    have ho:=(H.house.other _ _ hc hf hd).1
    have ih:=Home.adK b hK hw a0 B hr j (i + 1) (by omega)
    refine Ev.step (fun f=>iV.l0.eq_2 ..) (au h0 (au (by omega) (dU rfl (dU (Vp H.lbl a0 (bE n) B rg.1 rg.2 (H.tri hc)) (aK ?_ (Ev.bind (H.other hc hd) (Ev.bind (PS H.Dn H.three a0 L B _ (H.two hc ho)) ?_)))))))
    · intro e
      have : iN n L (at_ n L c0 d0 i).1 = true:=e
      rw [hf] at this;cases this
    · rw [← Fg];exact ih
theorem Home.sl1 {c : Int} (hc : Path.inC (n * n) c) {d : List Int} {acc : List Int} {r : List Int × List Int} (E : List (List Int)) (hE : E.length ≤ 1000) (he : ∀ e ∈ E,e.length = 2) : ∀ q i : Nat,i + q = E.length→(∃ e ∈ E.drop i,e≠d) →
    Ev (fun k=>d9.l0 k (bE n) L (fo (E.drop i) d) (dK n c (fo (E.drop i) d)) acc) r→Ev (fun k=>d9.l1 k (bE n) L d c acc E (E.length : Int) (i : Int)) r
  | 0,i,h,⟨e,hm,_⟩,_=>by rw [List.drop_eq_nil_of_le (by omega)] at hm;cases hm
  | q + 1,i,h,hm,hr=>by
    have hlt : i < E.length:=by omega
    have er : ah E (i : Int) = E[i]:=by unfold ah;rw [Int.toNat_natCast,List.getD_eq_getElem?_getD,List.getElem?_eq_getElem hlt];rfl
    have hl:=he _ (List.getElem_mem hlt)
    rw [List.drop_eq_getElem_cons hlt] at hm hr
    rw [fo] at hr
    refine Ev.step (fun f=>d9.l1.eq_2 ..) (au (by omega) (au (by omega) (au (by omega) ?_)))
    rw [er,wr (by omega) (by omega)]
    refine Ev.bind (aaX _ _ (by omega)) ?_
    by_cases e : E[i] = d
    · rw [if_pos e] at hr
      refine au (decide_eq_true e) (Home.sl1 hc E hE he q (i + 1) (by omega) ?_ hr)
      obtain ⟨e',hm,hne⟩:=hm
      rcases List.mem_cons.1 hm with e2|e2
      · exact absurd (e2.trans e) hne
      · exact ⟨e',e2,hne⟩
    · rw [if_neg e] at hr
      exact aK (by rw [decide_eq_false e];decide) (Ev.bind (P6 H.Dn H.three c hl) hr)
theorem Home.adL (b : Path.AY (dK n) (iN n L) (nP n L) (n * n) c0 d0) {K : Nat} (hK : K ≤ n * n) (hw : ∀ i,i < K→0 ≤ (at_ n L c0 d0 i).1∧iN n L (at_ n L c0 d0 i).1 = false) {r : List Int × List Int}
    (hr : Ev (fun k=>d9.l0 k (bE n) L (at_ n L c0 d0 K).2 (at_ n L c0 d0 K).1 (vis n L c0 d0 K)) r) : ∀ j i,i + j = K→Ev (fun k=>d9.l0 k (bE n) L (at_ n L c0 d0 i).2 (at_ n L c0 d0 i).1 (vis n L c0 d0 i)) r
  | 0,i,h=>by
    have : i = K:=h
    subst this
    exact hr
  | j + 1,i,h=>by
    obtain ⟨g1,_⟩:=Path.alive H.house b i (fun t ht=>(hw t (by omega)).1) (fun t ht=>(hw t (by omega)).2)
    obtain ⟨hc,hd⟩:=g1 i (Nat.le_refl _)
    obtain ⟨h0,hf⟩:=hw i (by omega)
    have rg:=H.range hc
    have bd:=H.bound c0 d0 (k:=i) (by omega)
    obtain ⟨o1,o2,o3⟩:=H.house.other _ _ hc hf hd
    have ih:=Home.adL b hK hw hr j (i + 1) (by omega)
    have ec : ah (bE n) (at_ n L c0 d0 i).1 = cl n (at_ n L c0 d0 i).1:=rfl
    have hlen:=H.len
    have hvl : (vis n L c0 d0 i).length = i:=aaY c0 d0 i
    refine Ev.step (fun f=>d9.l0.eq_2 ..) (au h0 ?_)
    refine Ev.step (fun f=>d9.j1.eq_2 ..) (au (decide_eq_true (by omega)) (au (by omega) (dU rfl (au h0 (au rg.2 ?_)))))
    rw [ec]
    refine Ev.bind (PO H.lbl (H.tri hc)) (aK ?_ (Ev.bind (Zm H.lbl (H.tri hc)) ?_))
    · intro e
      have : iN n L (at_ n L c0 d0 i).1 = true:=e
      rw [hf] at this;cases this
    · refine H.sl1 hc _ (Nat.le_trans (List.length_filter_le _ _) (by simp [edges])) (fun e he=>H.two hc he) _ 0 (Nat.zero_add _) ⟨_,o1,o2⟩ ?_
      rw [← Fg];exact ih
theorem Home.walks (b : Path.AY (dK n) (iN n L) (nP n L) (n * n) c0 d0) : ∃ K,K ≤ n * n∧(∀ i,i < K→0 ≤ (at_ n L c0 d0 i).1∧iN n L (at_ n L c0 d0 i).1 = false) ∧
    (((at_ n L c0 d0 K).1 < 0∧(∀ a0 B,Ev (fun k=>iV.f k a0 L (bE n) B c0 d0) (vis n L c0 d0 K,(at_ n L c0 d0 K).2,false))∧Ev (fun k=>d9.f k (bE n) L d0 c0) (vis n L c0 d0 K,(at_ n L c0 d0 K).2)) ∨
     (Path.inC (n * n) (at_ n L c0 d0 K).1∧iN n L (at_ n L c0 d0 K).1 = true∧(∀ a0 B,Ev (fun k=>iV.f k a0 L (bE n) B c0 d0) (vis n L c0 d0 (K + 1),(at_ n L c0 d0 K).2,true))∧Ev (fun k=>d9.f k (bE n) L d0 c0) (vis n L c0 d0 (K + 1),(at_ n L c0 d0 K).2))):=by
  obtain ⟨K,hK,hw,he⟩:=Path.ends H.house b;refine ⟨K,hK,hw,?_⟩;have bd:=H.bound c0 d0 hK;have hlen:=H.len;have hvl : (vis n L c0 d0 K).length = K:=aaY c0 d0 K;rcases he with he|⟨he,hf⟩
  · refine .inl ⟨he,fun a0 B=>?_,?_⟩
    · refine H.adK c0 d0 b hK hw a0 B ?_ K 0 (by omega)
      exact Ev.step (fun f=>iV.l0.eq_2 ..) (aK (by unfold at_;omega) (Ev.now _))
    · refine H.adL c0 d0 b hK hw ?_ K 0 (by omega)
      refine Ev.step (fun f=>d9.l0.eq_2 ..) (aK (by unfold at_;omega) ?_);exact Ev.step (fun f=>d9.j1.eq_2 ..) (aK (by decide) (Ev.now _))
  · obtain ⟨g1,_⟩:=Path.alive H.house b K (fun t ht=>by
      rcases Nat.lt_or_ge t K with h|h
      · exact (hw t h).1
      · have : t = K:=by omega
        subst this;exact he) (fun t ht=>(hw t ht).2)
    obtain ⟨hc,hd⟩:=g1 K (Nat.le_refl _);have rg:=H.range hc;have h0 : (at_ n L c0 d0 K).1 ≥ 0:=he;refine .inr ⟨hc,hf,fun a0 B=>?_,?_⟩
    · refine H.adK c0 d0 b hK hw a0 B ?_ K 0 (by omega)
      refine Ev.step (fun f=>iV.l0.eq_2 ..) (au h0 (au (by omega) (dU rfl (dU (Vp H.lbl a0 (bE n) B rg.1 rg.2 (H.tri hc)) (au hf ?_)))));rw [Fg];exact Ev.now _
    · refine H.adL c0 d0 b hK hw ?_ K 0 (by omega)
      have ec : ah (bE n) (at_ n L c0 d0 K).1 = cl n (at_ n L c0 d0 K).1:=rfl;refine Ev.step (fun f=>d9.l0.eq_2 ..) (au h0 ?_);refine Ev.step (fun f=>d9.j1.eq_2 ..) (au (decide_eq_true (by omega)) (au (by omega) (dU rfl (au h0 (au rg.2 ?_)))));have hff : Ev (fun k=>eT.f k L (cl n (at_ n L c0 d0 K).1)) (Gl L (cl n (at_ n L c0 d0 K).1)):=PO H.lbl (H.tri hc);refine Ev.bind hff (au hf ?_);rw [Fg];exact Ev.now _
end
end Go.Proofs.Ythaonijhfeemfaa.gF
namespace Go.Proofs.Ythaonijhfeemfaa.gF
open Go.RowKit Go.Proofs.Ythaonijhfeemfaa.dL Go.Proofs.YthaonijhfeemfaaW.bU Go.Proofs.YthaonijhfeemfaaW.fB Go.Proofs.YthaonijhfeemfaaW.iw
set_option linter.unusedVariables false
set_option linter.unusedSimpArgs false
set_option maxRecDepth 100000
theorem aq3 : ((List.range 9).all fun n=>n == 0 || decide (cnt (n : Int) = (many n : Int))) = true:=by decide +kernel
theorem Rk {a : Int} {l : List Int} (h : yT a l = true) : ∃ n : Nat,a = (n : Int)∧Home n l:=by
  unfold yT at h;simp only [Bool.and_eq_true,decide_eq_true_eq] at h;obtain ⟨⟨h1,h2⟩,h3,h4⟩:=h;have e : a = ((a.toNat : Nat) : Int):=by omega
  have s : Side a.toNat:=⟨by omega,by omega⟩;refine ⟨a.toNat,e,s,?_⟩;rw [e] at h3;have c:=of_decide_eq_true (s.tab aq3);exact asC (by omega) (by have:=ze s.hi;omega) h4
theorem aBg (vs : List Int) (x : Int) (h : vs.length ≤ 64) : wrap64 (((vs ++ [x]).length : Int) - 1) = (vs.length : Int)∧rd (vs ++ [x]) (vs.length : Int) = x:=by
  have e : ((vs ++ [x]).length : Int) = (vs.length : Int) + 1:=by simp
  refine ⟨by rw [e,wr (by omega) (by omega)];omega,?_⟩;rw [uF (by simp)];simp
end Go.Proofs.Ythaonijhfeemfaa.gF
namespace Go.Proofs.Ythaonijhfeemfaa.gF
open Go.RowKit Go.Proofs.Ythaonijhfeemfaa.dL Go.Proofs.YthaonijhfeemfaaW.bU Go.Proofs.YthaonijhfeemfaaW.fB Go.Proofs.YthaonijhfeemfaaW.iw
set_option linter.unusedVariables false
set_option linter.unusedSimpArgs false
set_option maxRecDepth 100000
def step (B : List Int) (t : Nat) : List Int:=[rd B (t : Int),rd B (Int.ofNat ((t + 1) % B.length))]
theorem Cq (B : List Int) : uX B = (List.range B.length).map (step B):=rfl
theorem ag8 (a0 : Int) (L : List Int) (C : List (List Int)) (B : List Int) (hB : B.length ≤ 1000) : ∀ d i : Nat,i + d = B.length→Ev (fun k=>jd.l0 k ((List.range i).map (step B)) B (B.length : Int) (i : Int) a0 L C B) (uX B)
  | 0,i,h=>Ev.step (fun f=>jd.l0.eq_2 ..) (aK (by omega) (jD (Ev.now _) (by rw [Cq,show i = B.length from h])))
  | d + 1,i,h=>by
    have ih:=ag8 a0 L C B hB d (i + 1) (by omega)
    have ht : Int.tmod (wrap64 ((i : Int) + 1)) (B.length : Int) = Int.ofNat ((i + 1) % B.length):=by rw [wr (by omega) (by omega)];rfl
    have hm:=Nat.mod_lt (i + 1) (show B.length > 0 by omega)
    refine Ev.step (fun f=>jd.l0.eq_2 ..) (au (by omega) (au (by omega) (au (by omega) (aK (by omega) ?_))))
    rw [ht]
    refine au (Int.natCast_nonneg _) (au (Int.ofNat_lt.2 hm) (au (by rw [List.length_map,List.length_range];omega) ?_))
    rw [wr (by omega) (by omega)]
    rw [List.range_succ,List.map_append] at ih
    exact ih
section
variable {n : Nat} {L : List Int} (H : Home n L)
include H
theorem Home.MC : (eP n).length ≤ 24:=by rw [H.side.geo.2.1];have:=H.side.hi;omega
theorem Home.step {s : List Int} (hs : s ∈ uX (eP n)) : ∃ x y,s = [x,y]∧(0 ≤ x∧x < (many n : Int))∧(0 ≤ y∧y < (many n : Int)):=by
  have a:=H.side.geo.2.2.2 s hs;rw [Cq] at hs;obtain ⟨t,_,e⟩:=List.mem_map.1 hs;unfold RS at a;simp only [Bool.and_eq_true,decide_eq_true_eq] at a;refine ⟨rd s 0,rd s 1,?_,⟨a.1.1.1.1,a.1.1.1.2⟩,⟨a.1.1.2,a.1.2⟩⟩;rw [← e];rfl
theorem Home.ao4 (a0 : Int) (C : List (List Int)) : Ev (fun k=>jd.f k a0 L C (eP n)) (uX (eP n)) :=
  ag8 a0 L C (eP n) (Nat.le_trans H.MC (by decide)) (eP n).length 0 (Nat.zero_add _)
def gates (n : Nat) (L : List Int) : List (List Int):=(uX (eP n)).filter (dr L)
theorem Home.entry (a0 : Int) (C : List (List Int)) (B : List Int) {s : List Int} (hs : s ∈ uX (eP n)) : qV.f s [(⟨a0,L,C,B⟩ : S43)] = some (!dr L s):=by
  obtain ⟨x,y,e,hx,hy⟩:=H.step hs;subst e;have hd:=ahq H.lbl a0 C B hx hy;unfold qV.f;rw [if_pos (by simp),if_pos (by simp),if_pos (by simp)];show (yV.f a0 L C B x y).bind _ = _;rw [hd];rfl
theorem Home.Vi (a0 : Int) (C : List (List Int)) : Ev (fun k=>jO.f k a0 L C (eP n)) (gates n L):=by
  refine Ev.bind (H.ao4 a0 C) (au ?_ (jD (Ev.now _) ?_))
  · rw [Bool.and_eq_true,decide_eq_true_eq]
    refine ⟨List.all_eq_true.2 fun s hs=>by rw [H.entry a0 C (eP n) hs];rfl,?_⟩;rw [Cq,List.length_map,List.length_range];have:=H.MC;omega
  · unfold gates
    refine List.filter_congr fun s hs=>?_
    unfold jO.q;rw [H.entry a0 C (eP n) hs];cases dr L s <;> rfl
theorem Home.agT : ∀ d i : Nat,i + d = (eP n).length→Ev (fun k=>fu.l0 k L (eP n) (((List.range i).map (gF.step (eP n))).filter (dr L)) (eP n) ((eP n).length : Int) (i : Int)) (gates n L)
  | 0,i,h=>Ev.step (fun f=>fu.l0.eq_2 ..) (aK (by omega) (jD (Ev.now _) (by unfold gates;rw [Cq,show i = (eP n).length from h])))
  | d + 1,i,h=>by
    have ih:=Home.agT d (i + 1) (by omega)
    have hB:=H.MC
    have ht : Int.tmod (wrap64 ((i : Int) + 1)) ((eP n).length : Int) = Int.ofNat ((i + 1) % (eP n).length):=by rw [wr (by omega) (by omega)];rfl
    have hm:=Nat.mod_lt (i + 1) (show (eP n).length > 0 by omega)
    have hst : gF.step (eP n) i ∈ uX (eP n):=by rw [Cq];exact List.mem_map_of_mem (List.mem_range.2 (by omega))
    obtain ⟨x,y,e,hx,hy⟩:=H.step hst
    have e1 : rd (eP n) (i : Int) = x:=by
      have:=congrArg (fun l : List Int=>rd l 0) e;exact this
    have e2 : rd (eP n) (Int.ofNat ((i + 1) % (eP n).length)) = y:=by
      have:=congrArg (fun l : List Int=>rd l 1) e;exact this
    have hf:=List.length_filter_le (dr L) ((List.range i).map (gF.step (eP n)));rw [List.length_map,List.length_range] at hf;refine Ev.step (fun f=>fu.l0.eq_2 ..) (au (by omega) (au (by omega) (au (by omega) (aK (by omega) ?_))));rw [ht];refine au (Int.natCast_nonneg _) (au (Int.ofNat_lt.2 hm) ?_);rw [e1,e2,wr (by omega) (by omega)];rw [List.range_succ,List.map_append,List.filter_append,List.map_singleton,e,List.filter_cons,List.filter_nil] at ih;refine dU (ahr H.lbl hx hy) ?_;by_cases hd : dr L [x,y] = true
    · rw [if_pos hd] at ih
      exact au hd (au (by omega) ih)
    · rw [if_neg hd,List.append_nil] at ih
      exact aK hd ih
theorem Home.PV : Ev (fun k=>fu.f k (n : Int) L) (gates n L) :=
  Ev.bind H.side.awr (H.agT (eP n).length 0 (Nat.zero_add _))
omit H in
theorem Zx (L : List Int) (s : List Int) : dr L (inner s) = dr L s:=by
  have e0 : rd (inner s) 0 = mn (rd s 0) (rd s 1):=rfl;have e1 : rd (inner s) 1 = mx (rd s 0) (rd s 1):=rfl;unfold dr;rw [e0,e1,decide_eq_decide];unfold mn mx;by_cases h : rd s 1 < rd s 0
  · rw [if_pos h,if_neg (by omega)];omega
  · by_cases h2 : rd s 0 < rd s 1
    · rw [if_neg h,if_pos h2]
    · rw [if_neg h,if_neg h2,show rd s 1 = rd s 0 by omega]
theorem Home.begin {s : List Int} (hs : s ∈ gates n L) : 0 ≤ dK n (-1) (inner s)∧Path.AY (dK n) (iN n L) (nP n L) (n * n) (dK n (-1) (inner s)) (inner s):=by
  obtain ⟨hs,hd⟩:=List.mem_filter.1 hs;have a:=H.side.geo.2.2.2 s hs;unfold RS at a;simp only [Bool.and_eq_true] at a;have b:=a.2;have hlen:=H.len;revert b;unfold dK bey;generalize hW : wth (bE n) (rd (inner s) 0) (rd (inner s) 1) = W;intro b;match W,b,hW with
  | [p],b,hW =>
    simp only [Bool.and_eq_true,decide_eq_true_eq] at b;obtain ⟨⟨b1,b2⟩,b3⟩:=b;have x1 : fb [p] (-1) = p:=by simp [fb];omega
    rw [x1];refine ⟨b1,fun _=>⟨⟨b1,by omega⟩,?_⟩,fun _=>.inl (by show fb (wth (bE n) (rd (inner s) 0) (rd (inner s) 1)) p = -1;rw [hW];unfold fb;rw [if_pos rfl];rfl)⟩;unfold nP jZ cl;exact List.mem_filter.2 ⟨List.contains_iff_mem.1 b3,by rw [Zx];exact hd⟩
omit H in
theorem MK (x y : Int) : oF.f x y = some [mn x y,mx x y]:=by
  unfold oF.f HZ.f zM.f mn mx;by_cases h : x < y
  · rw [if_pos h,if_neg (by omega),if_neg (by omega),if_pos h];rfl
  · by_cases h2 : y < x
    · rw [if_neg h,if_pos h2,if_pos h2,if_neg h];rfl
    · rw [if_neg h,if_neg h2,if_neg h2,if_neg h,show x = y by omega];rfl
theorem Home.enter {s : List Int} (hs : s ∈ gates n L) {p q : Int} (hpq : [mn p q,mx p q] = inner s) : ∃ vs x dd b,vs.length ≤ 64∧Path.inC (n * n) x∧iN n L x = b∧(∀ a0 B,Ev (fun k=>jB.f k a0 L (bE n) B p q) (vs ++ [x],dd,b))∧Ev (fun k=>lJ.f k (n : Int) L p q) (vs ++ [x],dd):=by
  have hpI : qF.f p q = some (inner s):=by rw [← hpq];rfl
  have hpS : oF.f p q = some (inner s):=by rw [← hpq];exact MK p q
  obtain ⟨h0,hb⟩:=H.begin hs;have hin : (inner s).length = 2:=rfl
  have lift : ∀ r : List Int × List Int × Bool,(∀ a0 B,Ev (fun k=>iV.f k a0 L (bE n) B (dK n (-1) (inner s)) (inner s)) r)→∀ a0 B,Ev (fun k=>jB.f k a0 L (bE n) B p q) r:=fun r hr a0 B =>
    dU hpI (Ev.bind (PS H.Dn H.three a0 L B (-1) (d:=inner s) hin) (Ev.bind (hr a0 B) (Ev.now _)))
  have AZ : ∀ r : List Int × List Int,Ev (fun k=>d9.f k (bE n) L (inner s) (dK n (-1) (inner s))) r→Ev (fun k=>lJ.f k (n : Int) L p q) r:=fun r hr =>
    Ev.bind H.side.cellsS (dU hpS (dU hpS (Ev.bind (P6 H.Dn H.three (-1) (d:=inner s) hin) (Ev.bind hr (Ev.now _)))))
  obtain ⟨K,hK,hw,he⟩:=H.walks _ _ hb;have bd:=fun k (hk : k ≤ n * n)=>H.bound (dK n (-1) (inner s)) (inner s) hk
  rcases he with ⟨he,hi,hsp⟩|⟨hc,hf,hi,hsp⟩
  · cases K with
    | zero=>exact absurd h0 (by have : (at_ n L (dK n (-1) (inner s)) (inner s) 0).1 = dK n (-1) (inner s):=rfl;omega)
    | succ K =>
      rw [Fg] at hi hsp;obtain ⟨g1,_⟩:=Path.alive H.house hb K (fun t ht=>(hw t (by omega)).1) (fun t ht=>(hw t (by omega)).2);exact ⟨_,_,_,_,bd K (by omega),(g1 K (Nat.le_refl _)).1,(hw K (by omega)).2,lift _ hi,AZ _ hsp⟩
  · rw [Fg] at hi hsp
    exact ⟨_,_,_,_,bd K hK,hc,hf,lift _ hi,AZ _ hsp⟩
end
end Go.Proofs.Ythaonijhfeemfaa.gF
namespace Go.Proofs.Ythaonijhfeemfaa.gF
open Go.RowKit Go.Proofs.Ythaonijhfeemfaa.dL Go.Proofs.YthaonijhfeemfaaW.bU Go.Proofs.YthaonijhfeemfaaW.fB Go.Proofs.YthaonijhfeemfaaW.iw
set_option linter.unusedVariables false
set_option linter.unusedSimpArgs false
set_option maxRecDepth 100000
instance aEw (N : Nat) (c : Int) : Decidable (Path.inC N c):=by unfold Path.inC;infer_instance
section
variable {n : Nat} {L : List Int} (H : Home n L)
include H
theorem Home.ao5 {c : Int} (hc : Path.inC (n * n) c) (hf : iN n L c = true) : ∃ d rest,jZ L (cl n c) = d :: rest:=by
  have T:=H.tri hc;unfold iN at hf;generalize cl n c = w at *;have g1:=T.lo;have g2:=T.ab;have g3:=T.bc;have g4:=T.hi;have r0:=H.lbl.ok (rd w 0) (by omega) (by omega);have r1:=H.lbl.ok (rd w 1) (by omega) (by omega);have r2:=H.lbl.ok (rd w 2) (by omega) (by omega);have nf : rd L (rd w 0)≠rd L (rd w 1)∧rd L (rd w 0)≠rd L (rd w 2)∧rd L (rd w 1)≠rd L (rd w 2):=of_decide_eq_true hf;have d1 : dr L [rd w 0,rd w 1] = decide (rd L (rd w 0) + rd L (rd w 1) = 1):=rfl;have d2 : dr L [rd w 0,rd w 2] = decide (rd L (rd w 0) + rd L (rd w 2) = 1):=rfl;have d3 : dr L [rd w 1,rd w 2] = decide (rd L (rd w 1) + rd L (rd w 2) = 1):=rfl
  have one : ∀ e,e ∈ edges w→dr L e = true→∃ d rest,jZ L w = d :: rest:=fun e h1 h2=>by
    have hm : e ∈ jZ L w:=List.mem_filter.2 ⟨h1,h2⟩;match hE : jZ L w with
    | []=>rw [hE] at hm;cases hm
    | d :: rest=>exact ⟨d,rest,rfl⟩
  by_cases h1 : rd L (rd w 0) + rd L (rd w 1) = 1
  · exact one [rd w 0,rd w 1] (by simp [edges]) (by rw [d1];exact decide_eq_true h1)
  · by_cases h2 : rd L (rd w 0) + rd L (rd w 2) = 1
    · exact one [rd w 0,rd w 2] (by simp [edges]) (by rw [d2];exact decide_eq_true h2)
    · exact one [rd w 1,rd w 2] (by simp [edges]) (by rw [d3];exact decide_eq_true (by omega))
end
end Go.Proofs.Ythaonijhfeemfaa.gF
namespace Go.Proofs.Ythaonijhfeemfaa.gF
open Go.RowKit Go.Proofs.Ythaonijhfeemfaa.dL Go.Proofs.YthaonijhfeemfaaW.bU Go.Proofs.YthaonijhfeemfaaW.fB Go.Proofs.YthaonijhfeemfaaW.iw
set_option linter.unusedVariables false
set_option linter.unusedSimpArgs false
set_option maxRecDepth 100000
def isIn (G : List (List Int)) (p : List Int) : Bool:=G.any fun s=>decide (inner s = p)
section
variable {n : Nat} {L : List Int} (H : Home n L)
include H
theorem Home.Zn : (gates n L).length ≤ 24:=by
  refine Nat.le_trans (List.length_filter_le _ _) ?_;rw [Cq,List.length_map,List.length_range];exact H.MC
theorem Home.Vw {s : List Int} (hs : s ∈ gates n L) : s.length = 2:=by
  obtain ⟨x,y,e,_,_⟩:=H.step (List.mem_filter.1 hs).1;rw [e];rfl
end
theorem Wt {G : List (List Int)} {i : Nat} (h : i < G.length) : ah G (i : Int) = G[i]:=by
  unfold ah;rw [Int.toNat_natCast,List.getD_eq_getElem?_getD,List.getElem?_eq_getElem h];rfl
theorem aoE (p q : Int) {s : List Int} (hs : s.length = 2) : Ev (fun k=>qx.f k s [p] [q]) (decide (inner s = [mn p q,mx p q])):=by
  refine au (by omega) (au (by omega) (dU (show qF.f (rd s 0) (rd s 1) = some (inner s) from rfl) (au (by simp) (au (by simp) (dU (show qF.f (rd [p] 0) (rd [q] 0) = some [mn p q,mx p q] from rfl) ?_)))));exact Ev.bind (Zw (inner s) [mn p q,mx p q] (by show 2 ≤ 1000000;decide)) (Ev.now _)
theorem agU (p q : Int) (G : List (List Int)) (hG : G.length ≤ 1000) (hs : ∀ s ∈ G,s.length = 2) : ∀ d i : Nat,i + d = G.length→∃ r : Int,Ev (fun k=>mh.l0 k G (G.length : Int) (i : Int) [p] [q]) r∧decide (r ≥ 0) = isIn (G.drop i) [mn p q,mx p q]
  | 0,i,h=>⟨-1,Ev.step (fun f=>mh.l0.eq_2 ..) (aK (by omega) (Ev.now _)),by rw [List.drop_eq_nil_of_le (by omega)];rfl⟩
  | d + 1,i,h=>by
    have hlt : i < G.length:=by omega
    have he:=aoE p q (hs _ (List.getElem_mem hlt))
    obtain ⟨r,r1,r2⟩:=agU p q G hG hs d (i + 1) (by omega)
    rw [List.drop_eq_getElem_cons hlt]
    have go : ∀ {z : Int},Ev (fun k=>if (decide (inner G[i] = [mn p q,mx p q])) = true then some (i : Int) else mh.l0 k G (G.length : Int) ((i + 1 : Nat) : Int) [p] [q]) z→Ev (fun k=>mh.l0 k G (G.length : Int) (i : Int) [p] [q]) z:=fun {z} hz=>by
      refine Ev.step (fun f=>mh.l0.eq_2 ..) (au (by omega) (au (by omega) (au (by omega) ?_)))
      rw [Wt hlt,wr (by omega) (by omega)]
      exact Ev.bind he hz
    by_cases e : inner G[i] = [mn p q,mx p q]
    · exact ⟨(i : Int),go (au (decide_eq_true e) (Ev.now _)),by unfold isIn;rw [List.any_cons,decide_eq_true e,Bool.true_or,decide_eq_true (by omega)]⟩
    · exact ⟨r,go (aK (by rw [decide_eq_false e];decide) r1),by rw [r2];unfold isIn;rw [List.any_cons,decide_eq_false e,Bool.false_or]⟩
theorem agO (p q : Int) (G : List (List Int)) (hG : G.length ≤ 1000) (hs : ∀ s ∈ G,s.length = 2) : ∀ d i : Nat,i + d = G.length→Ev (fun k=>gZ.l0 k p q G (G.length : Int) (i : Int)) (isIn (G.drop i) [mn p q,mx p q])
  | 0,i,h=>Ev.step (fun f=>gZ.l0.eq_2 ..) (aK (by omega) (jD (Ev.now _) (by rw [List.drop_eq_nil_of_le (by omega)];rfl)))
  | d + 1,i,h=>by
    have hlt : i < G.length:=by omega
    have hl:=hs _ (List.getElem_mem hlt)
    rw [List.drop_eq_getElem_cons hlt]
    refine Ev.step (fun f=>gZ.l0.eq_2 ..) (au (by omega) (au (by omega) (au (by omega) ?_)))
    rw [Wt hlt,wr (by omega) (by omega)]
    refine au (by omega) (au (by omega) (dU (show oF.f (rd G[i] 0) (rd G[i] 1) = some (inner G[i]) from MK _ _) (dU (MK p q) (Ev.bind (aaX (inner G[i]) [mn p q,mx p q] (by show 2 ≤ 1000000;decide)) ?_))))
    unfold isIn
    rw [List.any_cons]
    by_cases e : inner G[i] = [mn p q,mx p q]
    · exact au (decide_eq_true e) (jD (Ev.now _) (by rw [decide_eq_true e,Bool.true_or]))
    · exact aK (by rw [decide_eq_false e];decide) (jD (agO p q G hG hs d (i + 1) (by omega)) (by rw [decide_eq_false e,Bool.false_or];rfl))
section
variable {n : Nat} {L : List Int} (H : Home n L)
include H
theorem Home.ag9 (a0 : Int) (p q : Int) : Ev (fun k=>sG.f k a0 L (bE n) (eP n) p q) (isIn (gates n L) [mn p q,mx p q]):=by
  obtain ⟨r,r1,r2⟩:=agU p q (gates n L) (Nat.le_trans H.Zn (by decide)) (fun s hs=>H.Vw hs) (gates n L).length 0 (Nat.zero_add _);rw [List.drop_zero] at r2;exact Ev.bind (H.Vi a0 (bE n)) (Ev.bind (Ev.bind r1 (Ev.now _)) (jD (Ev.now _) r2))
theorem Home.aha (h2 : Ev (fun k=>gG.f k (n : Int) L) true) (p q : Int) : Ev (fun k=>gZ.f k (n : Int) L p q) (isIn (gates n L) [mn p q,mx p q]):=by
  have:=agO p q (gates n L) (Nat.le_trans H.Zn (by decide)) (fun s hs=>H.Vw hs) (gates n L).length 0 (Nat.zero_add _);rw [List.drop_zero] at this;exact Ev.bind h2 (au rfl (Ev.bind H.PV this))
end
theorem ao6 {G : List (List Int)} {p : List Int} (h : isIn G p = true) : ∃ s ∈ G,p = inner s:=by
  obtain ⟨s,hs,e⟩:=List.any_eq_true.1 h;exact ⟨s,hs,(of_decide_eq_true e).symm⟩
end Go.Proofs.Ythaonijhfeemfaa.gF
set_option linter.unusedVariables false
namespace Go.Proofs.Ythaonijhfeemfaa.gF.Path
def before (f : Nat→Int) : Nat→Int
  | 0=>-1
  | i + 1=>f i
section
variable {bey : Int→List Int→Int} {oth : Int→List Int→List Int} {full : Int→Bool} {door : Int→List Int→Prop} {N : Nat} (h : adI bey oth full door N)
include h
theorem prev {c0 : Int} {d0 : List Int} (b : AY bey full door N c0 d0) (hb : bey c0 d0 = -1) {k : Nat} (h1 : ∀ i,i ≤ k→0 ≤ (sq bey oth c0 d0 i).1∧full (sq bey oth c0 d0 i).1 = false) {j : Nat} (hj : j ≤ k) :
    oth (sq bey oth c0 d0 j).1 (sq bey oth c0 d0 (j + 1)).2 = (sq bey oth c0 d0 j).2∧bey (sq bey oth c0 d0 j).1 (sq bey oth c0 d0 j).2 = before (fun i=>(sq bey oth c0 d0 i).1) j:=by
  obtain ⟨g1,g2⟩:=alive h b k (fun i hi=>(h1 i hi).1) (fun i hi=>(h1 i (by omega)).2);obtain ⟨a1,a2⟩:=g1 j hj;obtain ⟨o1,o2,o3⟩:=h.other _ _ a1 (h1 j hj).2 a2;obtain ⟨p1,p2,p3⟩:=h.other _ _ a1 (h1 j hj).2 o1;constructor
  · rcases o3 _ p1 with e|e
    · exact e
    · exact absurd e p2
  · cases j with
    | zero=>exact hb
    | succ i =>
      obtain ⟨q1,q2⟩:=g1 i (by omega);obtain ⟨r1,_,_⟩:=h.other _ _ q1 (h1 i (by omega)).2 q2;have hp:=(h1 (i + 1) hj).1;rcases h.beyond _ _ q1 r1 with e|⟨_,_,_,e⟩
      · have e' : (sq bey oth c0 d0 (i + 1)).1 = -1:=e
        omega
      · exact e
theorem aq4 {c0 : Int} {d0 : List Int} (b : AY bey full door N c0 d0) (hb : bey c0 d0 = -1) {k : Nat} (h1 : ∀ i,i ≤ k→0 ≤ (sq bey oth c0 d0 i).1∧full (sq bey oth c0 d0 i).1 = false) :
    (∀ i,i ≤ k→sq bey oth (sq bey oth c0 d0 k).1 (sq bey oth c0 d0 (k + 1)).2 i = ((sq bey oth c0 d0 (k - i)).1,(sq bey oth c0 d0 (k - i + 1)).2))∧sq bey oth (sq bey oth c0 d0 k).1 (sq bey oth c0 d0 (k + 1)).2 (k + 1) = (-1,d0):=by
  have go : ∀ i,i ≤ k→sq bey oth (sq bey oth c0 d0 k).1 (sq bey oth c0 d0 (k + 1)).2 i = ((sq bey oth c0 d0 (k - i)).1,(sq bey oth c0 d0 (k - i + 1)).2):=fun i=>by
    induction i with
    | zero=>intro _;rfl
    | succ i ih =>
      intro hi;have e:=ih (by omega);obtain ⟨p1,p2⟩:=prev h b hb h1 (j:=k - i) (by omega);have e2 : k - i = (k - (i + 1)) + 1:=by omega
      show (bey (sq bey oth _ _ i).1 (oth (sq bey oth _ _ i).1 (sq bey oth _ _ i).2),oth (sq bey oth _ _ i).1 (sq bey oth _ _ i).2) = _;rw [e];show (bey (sq bey oth c0 d0 (k - i)).1 (oth (sq bey oth c0 d0 (k - i)).1 (sq bey oth c0 d0 (k - i + 1)).2),oth (sq bey oth c0 d0 (k - i)).1 (sq bey oth c0 d0 (k - i + 1)).2) = _;rw [p1,p2,e2];rfl
  refine ⟨go,?_⟩;have e:=go k (Nat.le_refl _);rw [Nat.sub_self] at e;obtain ⟨p1,p2⟩:=prev h b hb h1 (j:=0) (by omega);show (bey (sq bey oth _ _ k).1 (oth (sq bey oth _ _ k).1 (sq bey oth _ _ k).2),oth (sq bey oth _ _ k).1 (sq bey oth _ _ k).2) = _;rw [e];show (bey (sq bey oth c0 d0 0).1 (oth (sq bey oth c0 d0 0).1 (sq bey oth c0 d0 (0 + 1)).2),oth (sq bey oth c0 d0 0).1 (sq bey oth c0 d0 (0 + 1)).2) = _;rw [p1,p2];rfl
end
theorem ahK {α : Type} [DecidableEq α] (R : α→α→Prop) : ∀ (m : Nat) (l : List α),l.length ≤ m→l.Nodup→(∀ x ∈ l,∃ y ∈ l,R x y)→(∀ x y,x ∈ l→y ∈ l→R x y→R y x)→(∀ x y z,x ∈ l→y ∈ l→z ∈ l→R x y→R x z→y = z)→(∀ x ∈ l,¬ R x x)→l.length % 2 = 0
  | _,[],_,_,_,_,_,_=>rfl
  | 0,x :: r,hm,_,_,_,_,_=>by rw [List.length_cons] at hm;omega
  | m + 1,x :: r,hm,hn,h1,h2,h3,h4=>by
    obtain ⟨hx,hr⟩:=List.nodup_cons.1 hn
    have mx : x ∈ x :: r:=List.mem_cons_self
    have up : ∀ {z},z ∈ r→z ∈ x :: r:=fun hz=>List.mem_cons_of_mem _ hz
    obtain ⟨y,hy,hxy⟩:=h1 x mx
    have hy' : y ∈ r:=by
      rcases List.mem_cons.1 hy with e|e
      · rw [e] at hxy;exact absurd hxy (h4 x mx)
      · exact e
    have me : ∀ {z},z ∈ r.erase y ↔ z≠y∧z ∈ r:=fun {z}=>hr.mem_erase_iff
    have down : ∀ {z},z ∈ r.erase y→z ∈ x :: r:=fun hz=>up (me.1 hz).2
    have:=ahK R m (r.erase y) (by rw [List.length_erase_of_mem hy'];rw [List.length_cons] at hm;omega) (hr.erase y) (fun z hz=>by
      obtain ⟨zy,zr⟩:=me.1 hz;obtain ⟨w,hw,hzw⟩:=h1 z (up zr);refine ⟨w,me.2 ⟨?_,?_⟩,hzw⟩
      · intro e
        rw [e] at hzw;have:=h3 y z x hy (up zr) mx (h2 z y (up zr) hy hzw) (h2 x y mx hy hxy);exact hx (this ▸ zr)
      · rcases List.mem_cons.1 hw with e|e
        · rw [e] at hzw
          exact absurd (h3 x y z mx hy (up zr) hxy (h2 z x (up zr) mx hzw)).symm zy
        · exact e) (fun a b ha hb=>h2 a b (down ha) (down hb)) (fun a b c ha hb hc=>h3 a b c (down ha) (down hb) (down hc)) (fun a ha=>h4 a (down ha))
    have hl:=List.length_erase_of_mem hy';have hp:=List.length_pos_of_mem hy';rw [List.length_cons];omega
theorem ahL (b : Nat→Int) : ∀ n : Nat,(∀ t,t ≤ n→b t = 0 ∨ b t = 1)→(((((List.range n).countP fun t=>decide (b t + b (t + 1) = 1)) : Nat) : Int) - b 0 - b n) % 2 = 0
  | 0,_=>by simp only [List.range_zero,List.countP_nil];omega
  | n + 1,hb=>by
    have ih:=ahL b n (fun t ht=>hb t (by omega))
    rw [List.range_succ,List.countP_append,List.countP_singleton]
    rcases hb n (by omega) with e|e <;> rcases hb (n + 1) (by omega) with e'|e' <;> rw [e,e'] <;> rw [e] at ih <;> simp <;> omega
theorem ahb (p : Nat→Bool) (n : Nat) : ∀ d : Nat,(∀ t,n ≤ t→t < n + d→p t = false)→(List.range (n + d)).countP p = (List.range n).countP p
  | 0,_=>rfl
  | d + 1,h=>by
    rw [← Nat.add_assoc,List.range_succ,List.countP_append,List.countP_singleton,ahb p n d (fun t h1 h2=>h t h1 (by omega)),h (n + d) (by omega) (by omega)]
    simp
end Go.Proofs.Ythaonijhfeemfaa.gF.Path
namespace Go.Proofs.Ythaonijhfeemfaa.gF
open Go.RowKit Go.Proofs.Ythaonijhfeemfaa.dL Go.Proofs.YthaonijhfeemfaaW.bU Go.Proofs.YthaonijhfeemfaaW.fB Go.Proofs.YthaonijhfeemfaaW.iw
set_option linter.unusedVariables false
set_option linter.unusedSimpArgs false
set_option maxRecDepth 100000
def co (p : Pt) (k : Int) : Int:=if k = 0 then p.f0 else if k = 1 then p.f1 else p.f2
def Cz (n : Nat) (L : List Int) : Bool:=(List.range (many n)).all fun i=>decide (co (rdP (cu n) (i : Int)) (rd L (i : Int))≠0)
def bp (n t : Nat) : Int:=rd (eP n) (Int.ofNat (t % (eP n).length))
theorem ao7 : ((List.range 9).all fun n=>n == 0 || (List.range (3 * n + 1)).all fun t=>decide (0 ≤ bp n t) && decide (bp n t < (many n : Int)) && (decide (n < t) || decide ((rdP (cu n) (bp n t)).f2 = 0)) && (decide (t < n) || decide (2 * n < t) || decide ((rdP (cu n) (bp n t)).f0 = 0)) &&
    (decide (t < 2 * n) && decide (0 < t) || decide ((rdP (cu n) (bp n t)).f1 = 0))) = true:=by decide +kernel
theorem aoF : ((List.range 9).all fun n=>n == 0 || (uX (eP n)).all fun a=>(uX (eP n)).all fun b=>inner a != inner b || a == b) = true:=by decide +kernel
theorem an8 : ((List.range 9).all fun n=>n == 0 || decide (uX (eP n)).Nodup) = true:=by decide +kernel
theorem ao8 : ((List.range 9).all fun n=>n == 0 || (List.range (n * n)).all fun c=>(edges ((bE n).getD c [])).all fun d=>bey (bE n) (c : Int) d != -1 || ((uX (eP n)).map inner).contains d) = true:=by decide +kernel
theorem aoG : ((List.range 9).all fun n=>n == 0 || (((bE n).flatMap edges) ++ (uX (eP n)).map inner).isPerm ((((bE n).flatMap edges) ++ (uX (eP n)).map inner).eraseDups ++ (((bE n).flatMap edges) ++ (uX (eP n)).map inner).eraseDups)) = true:=by decide +kernel
theorem aq5 {L c : List Int} {m : Nat} (hL : Lbl L m) (hc : Tri c m) : (Gl L c = ((((jZ L c).length : Nat) : Int) == 1))∧(jZ L c).length ≤ 2:=by
  have g1:=hc.lo;have g2:=hc.ab;have g3:=hc.bc;have g4:=hc.hi;have r0:=hL.ok (rd c 0) (by omega) (by omega);have r1:=hL.ok (rd c 1) (by omega) (by omega);have r2:=hL.ok (rd c 2) (by omega) (by omega);unfold jZ edges Gl;have e : ∀ x y : Int,dr L [x,y] = decide (rd L x + rd L y = 1):=fun x y=>rfl
  simp only [List.filter_cons,List.filter_nil,e];generalize rd L (rd c 0) = a at *;generalize rd L (rd c 1) = b at *;generalize rd L (rd c 2) = d at *;have h1 : a = 0 ∨ a = 1 ∨ a = 2:=by omega
  have h2 : b = 0 ∨ b = 1 ∨ b = 2:=by omega
  have h3 : d = 0 ∨ d = 1 ∨ d = 2:=by omega
  clear g1 g2 g3 g4 r0 r1 r2 e;rcases h1 with rfl|rfl|rfl <;> rcases h2 with rfl|rfl|rfl <;> rcases h3 with rfl|rfl|rfl <;> simp
theorem ajo {L : List Int} {m : Nat} (hL : Lbl L m) : ∀ C : List (List Int),(∀ c ∈ C,Tri c m)→((C.map fun c=>(jZ L c).length).sum + C.countP (Gl L)) % 2 = 0
  | [],_=>rfl
  | c :: r,h=>by
    have ih:=ajo hL r (fun c hc=>h c (List.mem_cons_of_mem _ hc))
    obtain ⟨e1,e2⟩:=aq5 hL (h c List.mem_cons_self)
    rw [List.map_cons,List.sum_cons,List.countP_cons,e1]
    by_cases hd : (jZ L c).length = 1
    · rw [hd];simp;omega
    · have : ((((jZ L c).length : Nat) : Int) == 1) = false:=by rw [beq_eq_false_iff_ne];omega
      rw [this]
      simp
      omega
section
variable {n : Nat} {L : List Int} (H : Home n L)
include H
theorem Home.qD (hk : Cz n L = true) {t : Nat} (ht : t ≤ 3 * n) : (0 ≤ rd L (bp n t)∧rd L (bp n t) ≤ 2)∧(t ≤ n→rd L (bp n t)≠2)∧(n ≤ t→t ≤ 2 * n→rd L (bp n t)≠0)∧(2 * n ≤ t ∨ t = 0→rd L (bp n t)≠1):=by
  have a:=List.all_eq_true.1 (H.side.tab ao7) t (List.mem_range.2 (by omega));simp only [Bool.and_eq_true,Bool.or_eq_true,decide_eq_true_eq] at a;obtain ⟨⟨⟨⟨a1,a2⟩,a3⟩,a4⟩,a5⟩:=a;have ok:=H.lbl.ok (bp n t) a1 a2;obtain ⟨x,hx⟩:=Int.eq_ofNat_of_zero_le a1;have kp:=of_decide_eq_true (List.all_eq_true.1 hk x (List.mem_range.2 (by omega)));rw [← hx] at kp;unfold co at kp;refine ⟨ok,fun h e=>?_,fun h1 h2 e=>?_,fun h e=>?_⟩
  · rw [e,if_neg (by decide),if_neg (by decide)] at kp
    omega
  · rw [e,if_pos rfl] at kp
    omega
  · rw [e,if_neg (by decide),if_pos rfl] at kp
    omega
theorem Home.alY : (eP n).length = 3 * n:=H.side.geo.2.1
theorem Home.ahM (hk : Cz n L = true) : (gates n L).length % 2 = 1:=by
  have hlo:=H.side.lo
  have e1 : (gates n L).length = (List.range (n + 2 * n)).countP fun t=>decide (rd L (bp n t) + rd L (bp n (t + 1)) = 1):=by
    unfold gates;rw [← List.countP_eq_length_filter,Cq,List.countP_map,H.alY,show 3 * n = n + 2 * n by omega];refine List.countP_congr fun t ht=>?_
    have ht:=List.mem_range.1 ht;have e : bp n t = rd (eP n) (t : Int):=by unfold bp;rw [Nat.mod_eq_of_lt (by rw [H.alY];omega)];rfl
    rw [e];exact Iff.rfl
  rw [e1,Path.ahb _ n (2 * n) (fun t h1 h2=>by
    obtain ⟨o1,a1,a2,a3⟩:=H.qD hk (t:=t) (by omega);obtain ⟨o2,b1,b2,b3⟩:=H.qD hk (t:=t + 1) (by omega);refine decide_eq_false fun e=>?_
    rcases Nat.lt_or_ge t (2 * n) with h|h
    · have:=a2 h1 (by omega)
      have:=b2 (by omega) (by omega);omega
    · have:=a3 (.inl h)
      have:=b3 (.inl (by omega));omega)]
  have p:=Path.ahL (fun t=>rd L (bp n t)) n (fun t ht=>by
    obtain ⟨o1,a1,a2,a3⟩:=H.qD hk (t:=t) (by omega);have:=a1 ht;omega)
  obtain ⟨o1,a1,a2,a3⟩:=H.qD hk (t:=0) (by omega);obtain ⟨o2,b1,b2,b3⟩:=H.qD hk (t:=n) (by omega);have:=a1 (by omega);have:=a3 (.inr rfl);have:=b1 (by omega);have:=b2 (by omega) (by omega);have z0 : rd L (bp n 0) = 0:=by omega
  have zn : rd L (bp n n) = 1:=by omega
  simp only [z0,zn] at p;omega
theorem Home.ahN : (List.range (n * n)).map (fun (c : Nat)=>cl n (c : Int)) = bE n:=by
  refine List.ext_getElem (by rw [List.length_map,List.length_range,H.len]) fun i h1 h2=>?_
  rw [List.getElem_map,List.getElem_range];unfold cl;rw [Int.toNat_natCast,List.getD_eq_getElem?_getD,List.getElem?_eq_getElem h2];rfl
theorem Home.aq6 (hk : Cz n L = true) : ((List.range (n * n)).countP fun (c : Nat)=>iN n L (c : Int)) % 2 = 1:=by
  have hp:=List.isPerm_iff.1 (H.side.tab aoG);have h1:=hp.countP_eq (dr L);rw [List.countP_append,List.countP_append,List.countP_flatMap,List.countP_map] at h1;have e1 : (dr L ∘ inner) = dr L:=funext fun s=>Zx L s
  rw [e1] at h1;have e2 : (fun c=>(jZ L c).length) = (List.countP (dr L) ∘ edges):=funext fun c=>by unfold jZ;rw [← List.countP_eq_length_filter];rfl
  have h2:=ajo H.lbl (bE n) (fun c hc=>by
    rw [← H.ahN] at hc;obtain ⟨i,hi,e⟩:=List.mem_map.1 hc;rw [← e];exact H.tri (by have:=List.mem_range.1 hi;unfold Path.inC;omega))
  rw [e2] at h2;have h3:=H.ahM hk;unfold gates at h3;rw [← List.countP_eq_length_filter] at h3
  have e3 : ((List.range (n * n)).countP fun (c : Nat)=>iN n L (c : Int)) = (bE n).countP (Gl L):=by
    rw [← H.ahN,List.countP_map];rfl
  rw [e3];omega
def Out (n : Nat) (L : List Int) (k : Nat) (s s' : List Int) : Prop:=(∀ i,i ≤ k→0 ≤ (at_ n L (dK n (-1) (inner s)) (inner s) i).1∧iN n L (at_ n L (dK n (-1) (inner s)) (inner s) i).1 = false)∧(at_ n L (dK n (-1) (inner s)) (inner s) (k + 1)).1 < 0∧(at_ n L (dK n (-1) (inner s)) (inner s) (k + 1)).2 = inner s'
theorem Home.aq7 {c : Int} {d : List Int} (hc : Path.inC (n * n) c) (hd : nP n L c d) (hb : dK n c d = -1) : dK n (-1) d = c:=by
  have a:=H.cell hc;unfold nP jZ at hd;obtain ⟨he,hdr⟩:=List.mem_filter.1 hd;unfold NM at a;simp only [Bool.and_eq_true] at a;have b:=List.all_eq_true.1 a.2 d he;have hc':=hc;unfold Path.inC at hc';unfold dK bey at hb ⊢;have here : ((c.toNat : Nat) : Int) = c:=by omega
  revert b hb;generalize wth (bE n) (rd d 0) (rd d 1) = W;intro hb b;match W,b,hb with
  | [p],b,hb =>
    have e : p = c:=by have:=of_decide_eq_true b;omega
    have : p≠-1:=by omega
    simp [fb,this,e];omega
  | [p,q],b,hb =>
    simp only [Bool.or_eq_true,Bool.and_eq_true,decide_eq_true_eq] at b;rcases b with b|b
    · obtain ⟨⟨⟨⟨b1,b2⟩,b3⟩,b4⟩,b5⟩:=b
      have e1 : p = c:=by omega
      have e2 : q≠c:=by omega
      have x1 : fb [p,q] c = q:=by simp [fb,e1,e2]
      omega
    · obtain ⟨⟨⟨⟨b1,b2⟩,b3⟩,b4⟩,b5⟩:=b
      have e1 : q = c:=by omega
      have e2 : p≠c:=by omega
      have x1 : fb [p,q] c = p:=by simp [fb,e2]
      omega
theorem Home.outside {c : Int} {d : List Int} (hc : Path.inC (n * n) c) (hd : nP n L c d) (hb : dK n c d = -1) : ∃ s ∈ gates n L,inner s = d:=by
  unfold Path.inC at hc;have a:=List.all_eq_true.1 (H.side.tab ao8) c.toNat (List.mem_range.2 (by omega));unfold nP jZ cl at hd;obtain ⟨he,hdr⟩:=List.mem_filter.1 hd;have b:=List.all_eq_true.1 a d he;rw [show ((c.toNat : Nat) : Int) = c by omega] at b;unfold dK at hb;rw [hb] at b;simp only [bne_self_eq_false,Bool.false_or] at b;obtain ⟨s,hs,e⟩:=List.mem_map.1 (List.contains_iff_mem.1 b);exact ⟨s,List.mem_filter.2 ⟨hs,by rw [← Zx,e];exact hdr⟩,e⟩
theorem Home.asD {s : List Int} (hs : s ∈ gates n L) : dK n (dK n (-1) (inner s)) (inner s) = -1:=by
  obtain ⟨hs,hd⟩:=List.mem_filter.1 hs;have a:=H.side.geo.2.2.2 s hs;unfold RS at a;simp only [Bool.and_eq_true] at a;have b:=a.2;revert b;unfold dK bey;generalize wth (bE n) (rd (inner s) 0) (rd (inner s) 1) = W;intro b;match W,b with
  | [p],b =>
    simp only [Bool.and_eq_true,decide_eq_true_eq] at b;have x1 : fb [p] (-1) = p:=by simp [fb];omega
    rw [x1];unfold fb;rw [if_pos rfl];rfl
theorem Home.Zy {s : List Int} (hs : s ∈ gates n L) {k : Nat} (h1 : ∀ i,i ≤ k→0 ≤ (at_ n L (dK n (-1) (inner s)) (inner s) i).1∧iN n L (at_ n L (dK n (-1) (inner s)) (inner s) i).1 = false) (h2 : (at_ n L (dK n (-1) (inner s)) (inner s) (k + 1)).1 < 0) :
    Path.inC (n * n) (at_ n L (dK n (-1) (inner s)) (inner s) k).1∧nP n L (at_ n L (dK n (-1) (inner s)) (inner s) k).1 (at_ n L (dK n (-1) (inner s)) (inner s) (k + 1)).2∧dK n (at_ n L (dK n (-1) (inner s)) (inner s) k).1 (at_ n L (dK n (-1) (inner s)) (inner s) (k + 1)).2 = -1:=by
  obtain ⟨h0,hb⟩:=H.begin hs;obtain ⟨g1,g2⟩:=Path.alive H.house hb k (fun i hi=>(h1 i hi).1) (fun i hi=>(h1 i (by omega)).2);obtain ⟨a1,a2⟩:=g1 k (Nat.le_refl _);obtain ⟨o1,o2,o3⟩:=H.house.other _ _ a1 (h1 k (Nat.le_refl _)).2 a2;refine ⟨a1,o1,?_⟩;rcases H.house.beyond _ _ a1 o1 with e|⟨e,_⟩
  · exact e
  · have z : 0 ≤ (at_ n L (dK n (-1) (inner s)) (inner s) (k + 1)).1:=e.1
    omega
theorem Home.aaZ {s s' : List Int} (hs : s ∈ gates n L) {k : Nat} (ho : Out n L k s s') : dK n (-1) (inner s') = (at_ n L (dK n (-1) (inner s)) (inner s) k).1∧Out n L k s' s:=by
  obtain ⟨h1,h2,h3⟩:=ho;obtain ⟨h0,hb⟩:=H.begin hs;obtain ⟨a1,a2,a3⟩:=H.Zy hs h1 h2;have e:=H.aq7 a1 a2 a3;rw [h3] at e;obtain ⟨q1,q2⟩:=Path.aq4 H.house hb (H.asD hs) h1;refine ⟨e,?_⟩;unfold at_ at h1 h3 e;unfold Out at_;rw [h3] at q1 q2;rw [e];refine ⟨fun i hi=>?_,?_,?_⟩
  · rw [q1 i hi];exact h1 (k - i) (by omega)
  · rw [q2];show (-1 : Int) < 0;decide
  · rw [q2]
theorem Home.anJ {a b : List Int} (ha : a ∈ gates n L) (hb : b ∈ gates n L) (e : inner a = inner b) : a = b:=by
  have t:=List.all_eq_true.1 (List.all_eq_true.1 (H.side.tab aoF) a (List.mem_filter.1 ha).1) b (List.mem_filter.1 hb).1;rw [e] at t;simpa using t
omit H in
theorem ake {s a b : List Int} {k k' : Nat} (ho : Out n L k s a) (ho' : Out n L k' s b) : k = k'∧inner a = inner b:=by
  obtain ⟨h1,h2,h3⟩:=ho;obtain ⟨g1,g2,g3⟩:=ho'
  have e : k = k':=by
    rcases Nat.lt_trichotomy k k' with h|h|h
    · have:=(g1 (k + 1) (by omega)).1;omega
    · exact h
    · have:=(h1 (k' + 1) (by omega)).1;omega
  subst e;exact ⟨rfl,by rw [← h3,← g3]⟩
theorem Home.ao9 {s : List Int} (hs : s ∈ gates n L) {k : Nat} : ¬ Out n L k s s:=fun ho=>by
  obtain ⟨e,_⟩:=H.aaZ hs ho;obtain ⟨h1,h2,h3⟩:=ho;obtain ⟨h0,hb⟩:=H.begin hs;obtain ⟨g1,g2⟩:=Path.alive H.house hb k (fun i hi=>(h1 i hi).1) (fun i hi=>(h1 i (by omega)).2);cases k with
  | zero =>
    obtain ⟨a1,a2⟩:=g1 0 (Nat.le_refl _);exact (H.house.other _ _ a1 (h1 0 (Nat.le_refl _)).2 a2).2.1 h3
  | succ k=>exact g2 0 (k + 1) (by omega) (Nat.le_refl _) e
theorem Home.apa {s : List Int} (hs : s ∈ gates n L) : (∃ k s',s' ∈ gates n L∧Out n L k s s') ∨ ∃ K,(∀ i,i < K→0 ≤ (at_ n L (dK n (-1) (inner s)) (inner s) i).1∧iN n L (at_ n L (dK n (-1) (inner s)) (inner s) i).1 = false)∧0 ≤ (at_ n L (dK n (-1) (inner s)) (inner s) K).1∧iN n L (at_ n L (dK n (-1) (inner s)) (inner s) K).1 = true:=by
  obtain ⟨h0,hb⟩:=H.begin hs;obtain ⟨K,hK,hw,he⟩:=Path.ends H.house hb;rcases he with he|he
  · cases K with
    | zero=>exact absurd h0 (by have : (Path.sq (dK n) (Gm n L) (dK n (-1) (inner s)) (inner s) 0).1 = dK n (-1) (inner s):=rfl;omega)
    | succ K =>
      have h1 : ∀ i,i ≤ K→0 ≤ (at_ n L (dK n (-1) (inner s)) (inner s) i).1∧iN n L (at_ n L (dK n (-1) (inner s)) (inner s) i).1 = false:=fun i hi=>hw i (by omega)
      obtain ⟨a1,a2,a3⟩:=H.Zy hs h1 he;obtain ⟨s',hs',e⟩:=H.outside a1 a2 a3;exact .inl ⟨K,s',hs',h1,he,e.symm⟩
  · exact .inr ⟨K,hw,he⟩
theorem Home.aoj : (gates n L).Nodup:=(of_decide_eq_true (H.side.tab an8)).filter _
theorem Home.apb (hk : Cz n L = true) : ∃ s ∈ gates n L,∃ K,(∀ i,i < K→0 ≤ (at_ n L (dK n (-1) (inner s)) (inner s) i).1∧iN n L (at_ n L (dK n (-1) (inner s)) (inner s) i).1 = false)∧0 ≤ (at_ n L (dK n (-1) (inner s)) (inner s) K).1∧iN n L (at_ n L (dK n (-1) (inner s)) (inner s) K).1 = true:=by
  refine Classical.byContradiction fun hno=>?_
  have hall : ∀ s ∈ gates n L,∃ s' ∈ gates n L,∃ k,Out n L k s s':=fun s hs=>by
    rcases H.apa hs with ⟨k,s',hs',ho⟩|h
    · exact ⟨s',hs',k,ho⟩
    · exact absurd ⟨s,hs,h⟩ hno
  have:=Path.ahK (fun s s'=>∃ k,Out n L k s s') _ (gates n L) (Nat.le_refl _) H.aoj hall (fun a b ha hb ⟨k,h⟩=>⟨k,(H.aaZ ha h).2⟩) (fun a b c ha hb hc ⟨k,h⟩ ⟨k',h'⟩=>H.anJ hb hc (ake h h').2) (fun a ha ⟨k,h⟩=>H.ao9 ha h);have:=H.ahM hk;omega
end
end Go.Proofs.Ythaonijhfeemfaa.gF
namespace Go.Proofs.Ythaonijhfeemfaa.gF
open Go.RowKit Go.Proofs.Ythaonijhfeemfaa.dL Go.Proofs.YthaonijhfeemfaaW.bU Go.Proofs.YthaonijhfeemfaaW.fB Go.Proofs.YthaonijhfeemfaaW.iw
set_option linter.unusedVariables false
set_option linter.unusedSimpArgs false
set_option maxRecDepth 100000
def mk (b : List Bool) (l : List Int) : List Bool:=l.foldl (fun b x=>b.set x.toNat true) b
theorem abO : ∀ (l : List Int) (b : List Bool),(mk b l).length = b.length
  | [],b=>rfl
  | x :: r,b=>by
    show (mk (b.set x.toNat true) r).length = _
    rw [abO r,List.length_set]
theorem mark_eq {m : Nat} : ∀ (l : List Int) (b : List Bool),b.length = m→(∀ v ∈ l,Path.inC m v)→bq.mark b l = some (mk b l)
  | [],b,_,_=>rfl
  | x :: r,b,hb,h=>by
    have hx:=h x List.mem_cons_self
    unfold Path.inC at hx
    rw [bq.mark,if_pos ⟨hx.1,by rw [hb];exact hx.2⟩]
    exact mark_eq r _ (by rw [List.length_set];exact hb) (fun v hv=>h v (List.mem_cons_of_mem _ hv))
theorem ahc {m : Nat} (n : Int) (L : List Int) (C E : List (List Int)) (xi : Int) (W : List Int) (hW : W.length ≤ 1000) (hv : ∀ v ∈ W,Path.inC m v) (hm : m ≤ 1000) (r : Int × Bool) : ∀ (d i : Nat) (b : List Bool),i + d = W.length→b.length = m →
    Ev (fun k=>bN.l0 k n L C (mk b (W.drop i)) E (E.length : Int) (wrap64 (xi + 1))) r→Ev (fun k=>bN.l1 k n L C b E (E.length : Int) xi W (W.length : Int) (i : Int)) r
  | 0,i,b,h,hb,hr=>by
    rw [List.drop_eq_nil_of_le (by omega)] at hr
    exact Ev.step (fun f=>bN.l1.eq_2 ..) (aK (by omega) hr)
  | d + 1,i,b,h,hb,hr=>by
    have hlt : i < W.length:=by omega
    have hx:=hv _ (List.getElem_mem hlt)
    unfold Path.inC at hx
    rw [List.drop_eq_getElem_cons hlt] at hr
    refine Ev.step (fun f=>bN.l1.eq_2 ..) (au (by omega) (au (by omega) (au (by omega) ?_)))
    rw [uF hlt,wr (x:=(i : Int) + 1) (by omega) (by omega)]
    exact au hx.1 (au (by rw [hb];exact hx.2) (ahc n L C E xi W hW hv hm r d (i + 1) _ (by omega) (by rw [List.length_set];exact hb) hr))
theorem ahd {m : Nat} (n : Int) (L : List Int) (C : List (List Int)) (F : List Int) (xi : Int) (W : List Int) (hW : W.length ≤ 1000) (hv : ∀ v ∈ W,Path.inC m v) (hm : m ≤ 1000) (r : Int × Bool) : ∀ (d i : Nat) (b : List Bool),i + d = W.length→b.length = m →
    Ev (fun k=>bN.l2 k n L C (mk b (W.drop i)) F (F.length : Int) (wrap64 (xi + 1))) r→Ev (fun k=>bN.l3 k n L C b F (F.length : Int) xi W (W.length : Int) (i : Int)) r
  | 0,i,b,h,hb,hr=>by
    rw [List.drop_eq_nil_of_le (by omega)] at hr
    exact Ev.step (fun f=>bN.l3.eq_2 ..) (aK (by omega) hr)
  | d + 1,i,b,h,hb,hr=>by
    have hlt : i < W.length:=by omega
    have hx:=hv _ (List.getElem_mem hlt)
    unfold Path.inC at hx
    rw [List.drop_eq_getElem_cons hlt] at hr
    refine Ev.step (fun f=>bN.l3.eq_2 ..) (au (by omega) (au (by omega) (au (by omega) ?_)))
    rw [uF hlt,wr (x:=(i : Int) + 1) (by omega) (by omega)]
    exact au hx.1 (au (by rw [hb];exact hx.2) (ahd n L C F xi W hW hv hm r d (i + 1) _ (by omega) (by rw [List.length_set];exact hb) hr))
section
variable {n : Nat} {L : List Int} (H : Home n L)
include H
theorem akf {c0 : Int} {d0 : List Int} (hb : Path.AY (dK n) (iN n L) (nP n L) (n * n) c0 d0) {K : Nat} (hw : ∀ i,i < K→0 ≤ (at_ n L c0 d0 i).1∧iN n L (at_ n L c0 d0 i).1 = false) : ∀ v ∈ vis n L c0 d0 K,Path.inC (n * n) v:=fun v hv=>by
  unfold vis at hv;obtain ⟨i,hi,rfl⟩:=List.mem_map.1 hv;have hi:=List.mem_range.1 hi;exact ((Path.alive H.house hb i (fun t ht=>(hw t (by omega)).1) (fun t ht=>(hw t (by omega)).2)).1 i (Nat.le_refl _)).1
theorem asE {s : List Int} (hs : s ∈ gates n L) {p q : Int} (hpq : [mn p q,mx p q] = inner s) : ∃ vs dd b,vs.length ≤ 65∧(∀ v ∈ vs,Path.inC (n * n) v)∧(∀ a0 B,Ev (fun k=>jB.f k a0 L (bE n) B p q) (vs,dd,b))∧Ev (fun k=>lJ.f k (n : Int) L p q) (vs,dd):=by
  have hpI : qF.f p q = some (inner s):=by rw [← hpq];rfl
  have hpS : oF.f p q = some (inner s):=by rw [← hpq];exact MK p q
  obtain ⟨h0,hb⟩:=H.begin hs;have hin : (inner s).length = 2:=rfl
  have lift : ∀ r : List Int × List Int × Bool,(∀ a0 B,Ev (fun k=>iV.f k a0 L (bE n) B (dK n (-1) (inner s)) (inner s)) r)→∀ a0 B,Ev (fun k=>jB.f k a0 L (bE n) B p q) r:=fun r hr a0 B =>
    dU hpI (Ev.bind (PS H.Dn H.three a0 L B (-1) (d:=inner s) hin) (Ev.bind (hr a0 B) (Ev.now _)))
  have AZ : ∀ r : List Int × List Int,Ev (fun k=>d9.f k (bE n) L (inner s) (dK n (-1) (inner s))) r→Ev (fun k=>lJ.f k (n : Int) L p q) r:=fun r hr =>
    Ev.bind H.side.cellsS (dU hpS (dU hpS (Ev.bind (P6 H.Dn H.three (-1) (d:=inner s) hin) (Ev.bind hr (Ev.now _)))))
  obtain ⟨K,hK,hw,he⟩:=H.walks _ _ hb;have bd:=H.bound (dK n (-1) (inner s)) (inner s) hK;have ok:=akf H hb hw;rcases he with ⟨he,hi,hsp⟩|⟨hc,hf,hi,hsp⟩
  · exact ⟨_,_,_,by omega,ok,lift _ hi,AZ _ hsp⟩
  · rw [Fg] at hi hsp
    refine ⟨_,_,_,by rw [List.length_append,List.length_singleton];omega,fun v hv=>?_,lift _ hi,AZ _ hsp⟩;rcases List.mem_append.1 hv with h|h
    · exact ok v h
    · rw [List.mem_singleton.1 h];exact hc
theorem asF {c : Int} (hc : Path.inC (n * n) c) (hf : iN n L c = true) : ∃ vs b,vs.length ≤ 65∧(∀ v ∈ vs,Path.inC (n * n) v)∧(∀ a0 B,Ev (fun k=>qE.f k a0 L (bE n) B c) (vs,b))∧Ev (fun k=>yB.f k (n : Int) L c) vs:=by
  obtain ⟨d,rest,hE⟩:=H.ao5 hc hf;have hd : nP n L c d:=by unfold nP;rw [hE];exact List.mem_cons_self
  have rg:=H.range hc;have hB:=H.house.beyond c d hc hd
  have hb : Path.AY (dK n) (iN n L) (nP n L) (n * n) (dK n c d) d:=⟨fun h0=>by
    rcases hB with e|⟨b1,b2,b3,b4⟩
    · omega
    · exact ⟨b1,b3⟩,fun h0=>by
    rcases hB with e|⟨b1,b2,b3,b4⟩
    · omega
    · exact .inr (by rw [b4];exact hf)⟩
  have hT:=H.tri hc;have ec : ah (bE n) c = cl n c:=rfl;have hI : ∀ a0 B,Ev (fun k=>dV.f k a0 L (bE n) B c) (d :: rest):=fun a0 B=>by rw [← hE];exact Zl H.lbl a0 (bE n) B rg.1 rg.2 hT
  have hS : Ev (fun k=>fD.f k L (cl n c)) (d :: rest):=by rw [← hE];exact Zm H.lbl hT
  have hz : ah (d :: rest) 0 = d:=rfl
  have lift : ∀ r : List Int × List Int × Bool,(∀ a0 B,Ev (fun k=>iV.f k a0 L (bE n) B (dK n c d) d) r)→∀ a0 B,Ev (fun k=>qE.f k a0 L (bE n) B c) (r.1,r.2.2):=fun r hr a0 B=>by
    refine Ev.bind (hI a0 B) (au (by simp) ?_);rw [hz];exact Ev.bind (PS H.Dn H.three a0 L B c (H.two hc hd)) (Ev.bind (hr a0 B) (Ev.now _))
  have AZ : ∀ r : List Int × List Int,Ev (fun k=>d9.f k (bE n) L d (dK n c d)) r→Ev (fun k=>yB.f k (n : Int) L c) r.1:=fun r hr=>by
    refine Ev.bind H.side.cellsS (au rg.1 (au rg.2 ?_));rw [ec];refine Ev.bind hS (au (by simp) ?_);rw [hz];exact Ev.bind (P6 H.Dn H.three c (H.two hc hd)) (Ev.bind hr (Ev.now _))
  obtain ⟨K,hK,hw,he⟩:=H.walks _ _ hb;have bd:=H.bound (dK n c d) d hK;have ok:=akf H hb hw;rcases he with ⟨he,hi,hsp⟩|⟨hcx,hfx,hi,hsp⟩
  · exact ⟨_,_,by omega,ok,lift _ hi,AZ _ hsp⟩
  · rw [Fg] at hi hsp
    refine ⟨_,_,by rw [List.length_append,List.length_singleton];omega,fun v hv=>?_,lift _ hi,AZ _ hsp⟩;rcases List.mem_append.1 hv with h|h
    · exact ok v h
    · rw [List.mem_singleton.1 h];exact hcx
def mF (n : Nat) (L : List Int) (i : Nat) : List Int:=((List.range i).filter fun (c : Nat)=>iN n L (c : Int)).map fun (c : Nat)=>(c : Int)
omit H in
theorem ahe (i : Nat) : mF n L (i + 1) = if iN n L (i : Int) = true then mF n L i ++ [(i : Int)] else mF n L i:=by
  unfold mF;rw [List.range_succ,List.filter_append,List.filter_cons,List.filter_nil,List.map_append];cases iN n L (i : Int) <;> simp
omit H in
theorem PX (i : Nat) : (mF n L i).length ≤ i:=by
  unfold mF;rw [List.length_map];exact Nat.le_trans (List.length_filter_le _ _) (by rw [List.length_range];exact Nat.le_refl _)
theorem ahu (a0 : Int) (B : List Int) : ∀ d i : Nat,i + d = n * n→Ev (fun k=>jX.l0 k (mF n L i) ((bE n).length : Int) (i : Int) a0 L (bE n) B) (mF n L (n * n))
  | 0,i,h=>by
    have hl:=H.len
    exact Ev.step (fun f=>jX.l0.eq_2 ..) (aK (by omega) (jD (Ev.now _) (by rw [show i = n * n from h])))
  | d + 1,i,h=>by
    have hl:=H.len
    have hn:=H.nn
    have hc : Path.inC (n * n) (i : Int):=by unfold Path.inC;omega
    have rg:=H.range hc
    have ih:=ahu a0 B d (i + 1) (by omega)
    have hfl:=PX (n:=n) (L:=L) i
    rw [ahe] at ih
    refine Ev.step (fun f=>jX.l0.eq_2 ..) (au (by omega) (dU (Vp H.lbl a0 (bE n) B rg.1 rg.2 (H.tri hc)) ?_))
    rw [wr (x:=(i : Int) + 1) (by omega) (by omega)]
    show Ev (fun k=>if iN n L (i : Int) = true then _ else _) _
    cases hf : iN n L (i : Int) with
    | true=>rw [hf,if_pos rfl] at ih;exact au rfl (au (by omega) ih)
    | false=>rw [hf,if_neg (by decide)] at ih;exact aK (by decide) ih
theorem ahv : ∀ d i : Nat,i + d = n * n→Ev (fun k=>jY.l0 k L (mF n L i) (bE n) ((bE n).length : Int) (i : Int)) (mF n L (n * n))
  | 0,i,h=>by
    have hl:=H.len
    exact Ev.step (fun f=>jY.l0.eq_2 ..) (aK (by omega) (jD (Ev.now _) (by rw [show i = n * n from h])))
  | d + 1,i,h=>by
    have hl:=H.len
    have hn:=H.nn
    have hc : Path.inC (n * n) (i : Int):=by unfold Path.inC;omega
    have rg:=H.range hc
    have ec : ah (bE n) (i : Int) = cl n (i : Int):=rfl
    have ih:=ahv d (i + 1) (by omega)
    have hfl:=PX (n:=n) (L:=L) i
    rw [ahe] at ih
    refine Ev.step (fun f=>jY.l0.eq_2 ..) (au (by omega) (au (by omega) (au (by omega) ?_)))
    rw [ec,wr (x:=(i : Int) + 1) (by omega) (by omega)]
    refine Ev.bind (show Ev (fun k=>eT.f k L (cl n (i : Int))) (iN n L (i : Int)) from PO H.lbl (H.tri hc)) ?_
    cases hf : iN n L (i : Int) with
    | true=>rw [hf,if_pos rfl] at ih;exact au rfl (au (by omega) ih)
    | false=>rw [hf,if_neg (by decide)] at ih;exact aK (by decide) ih
theorem ajp (a0 : Int) (B : List Int) : Ev (fun k=>jX.f k a0 L (bE n) B) (mF n L (n * n)):=ahu H a0 B (n * n) 0 (Nat.zero_add _)
theorem ahf : Ev (fun k=>jY.f k (n : Int) L) (mF n L (n * n)):=Ev.bind H.side.cellsS (ahv H (n * n) 0 (Nat.zero_add _))
theorem akg (a0 : Int) (B : List Int) : ∀ (d i : Nat) (b : List Bool),i + d = (gates n L).length→b.length = n * n→∃ b',b'.length = n * n∧Ev (fun k=>bq.g1 k a0 L (bE n) B ((gates n L).drop i) b) b' ∧
    ∀ r,Ev (fun k=>(jY.f k (n : Int) L).bind fun t=>bN.l2 k (n : Int) L (bE n) b' t (t.length : Int) 0) r→Ev (fun k=>bN.l0 k (n : Int) L (bE n) b (gates n L) ((gates n L).length : Int) (i : Int)) r
  | 0,i,b,h,hb=>by
    refine ⟨b,hb,?_,fun r hr=>Ev.step (fun f=>bN.l0.eq_2 ..) (aK (by omega) hr)⟩
    rw [List.drop_eq_nil_of_le (by omega)]
    exact Ev.now _
  | d + 1,i,b,h,hb=>by
    have hlt : i < (gates n L).length:=by omega
    have hn:=H.nn
    have hg : (gates n L).length ≤ 24:=by
      refine Nat.le_trans (List.length_filter_le _ _) ?_;rw [Cq,List.length_map,List.length_range];exact H.MC
    have er : ah (gates n L) (i : Int) = (gates n L)[i]:=by unfold ah;rw [Int.toNat_natCast,List.getD_eq_getElem?_getD,List.getElem?_eq_getElem hlt];rfl
    have hm:=List.getElem_mem hlt;obtain ⟨x',y',e,_,_⟩:=H.step (List.mem_filter.1 hm).1;have hlen : (gates n L)[i].length = 2:=by rw [e];rfl
    obtain ⟨vs,dd,bb,hv,hok,hi,hs⟩:=asE H hm (p:=rd (gates n L)[i] 0) (q:=rd (gates n L)[i] 1) rfl;obtain ⟨b',hb',i1,i2⟩:=akg a0 B d (i + 1) (mk b vs) (by omega) (by rw [abO];exact hb);refine ⟨b',hb',?_,fun r hr=>?_⟩
    · rw [List.drop_eq_getElem_cons hlt]
      refine Ev.congr (fun k=>by rw [bq.g1]) (au (by omega) (Ev.bind (hi a0 B) (au (by show vs.length ≤ 1000000;omega) (dU (mark_eq vs b hb hok) i1))))
    · refine Ev.step (fun f=>bN.l0.eq_2 ..) (au (by omega) (au (by omega) (au (by omega) ?_)))
      rw [er];refine au (by omega) (au (by omega) (Ev.bind hs ?_));refine ahc (m:=n * n) (n : Int) L (bE n) (gates n L) (i : Int) vs (by omega) hok (by omega) r vs.length 0 b (Nat.zero_add _) hb ?_;rw [List.drop_zero,wr (by omega) (by omega)];exact i2 r hr
theorem akh (a0 : Int) (B : List Int) : ∀ (d i : Nat) (b : List Bool),i + d = (mF n L (n * n)).length→b.length = n * n→∃ b',b'.length = n * n∧Ev (fun k=>bq.g2 k a0 L (bE n) B ((mF n L (n * n)).drop i) b) b' ∧
    ∀ r,Ev (fun k=>bN.l4 k L b' 0 (bE n) ((bE n).length : Int) 0) r→Ev (fun k=>bN.l2 k (n : Int) L (bE n) b (mF n L (n * n)) ((mF n L (n * n)).length : Int) (i : Int)) r
  | 0,i,b,h,hb=>by
    refine ⟨b,hb,?_,fun r hr=>Ev.step (fun f=>bN.l2.eq_2 ..) (aK (by omega) hr)⟩
    rw [List.drop_eq_nil_of_le (by omega)]
    exact Ev.now _
  | d + 1,i,b,h,hb=>by
    have hlt : i < (mF n L (n * n)).length:=by omega
    have hn:=H.nn
    have hg:=PX (n:=n) (L:=L) (n * n)
    have hm:=List.getElem_mem hlt
    have hcf : Path.inC (n * n) (mF n L (n * n))[i]∧iN n L (mF n L (n * n))[i] = true:=by
      obtain ⟨c,hc,e⟩:=List.mem_map.1 hm;obtain ⟨h1,h2⟩:=List.mem_filter.1 hc;rw [← e];have:=List.mem_range.1 h1;exact ⟨by unfold Path.inC;omega,h2⟩
    obtain ⟨vs,bb,hv,hok,hi,hs⟩:=asF H hcf.1 hcf.2;obtain ⟨b',hb',i1,i2⟩:=akh a0 B d (i + 1) (mk b vs) (by omega) (by rw [abO];exact hb);refine ⟨b',hb',?_,fun r hr=>?_⟩
    · rw [List.drop_eq_getElem_cons hlt]
      refine Ev.congr (fun k=>by rw [bq.g2]) (Ev.bind (hi a0 B) (au (by show vs.length ≤ 1000000;omega) (dU (mark_eq vs b hb hok) i1)))
    · refine Ev.step (fun f=>bN.l2.eq_2 ..) (au (by omega) (au (by omega) (au (by omega) ?_)))
      rw [uF hlt];refine Ev.bind hs ?_;refine ahd (m:=n * n) (n : Int) L (bE n) (mF n L (n * n)) (i : Int) vs (by omega) hok (by omega) r vs.length 0 b (Nat.zero_add _) hb ?_;rw [List.drop_zero,wr (by omega) (by omega)];exact i2 r hr
theorem counts (a0 : Int) (B : List Int) (b : List Bool) (hb : b.length = n * n) : ∀ (d i : Nat) (c : Int),i + d = n * n→∃ r : Int,Ev (fun k=>bq.g3 k a0 L (bE n) B b d i c) r∧Ev (fun k=>bN.l4 k L b c (bE n) ((bE n).length : Int) (i : Int)) (r,true)
  | 0,i,c,h=>by
    have hl:=H.len
    exact ⟨c,Ev.now _,Ev.step (fun f=>bN.l4.eq_2 ..) (aK (by omega) (Ev.now _))⟩
  | d + 1,i,c,h=>by
    have hl:=H.len
    have hn:=H.nn
    have hc : Path.inC (n * n) (i : Int):=by unfold Path.inC;omega
    have rg:=H.range hc
    have ec : ah (bE n) (i : Int) = cl n (i : Int):=rfl
    have hI:=Zl H.lbl a0 (bE n) B rg.1 rg.2 (H.tri hc)
    have hS:=Zm H.lbl (H.tri hc)
    have er : EY false b (i : Int) = b.getD i false:=rfl
    have spec : ∀ r,(Ev (fun k=>if ((jZ L (cl n (i : Int))).length : Int) = 2 then (if (i : Int) < (b.length : Int) then (if b.getD i false = true then bN.l4 k L b c (bE n) ((bE n).length : Int) ((i + 1 : Nat) : Int) else bN.l4 k L b (wrap64 (c + 1)) (bE n) ((bE n).length : Int) ((i + 1 : Nat) : Int)) else none) else bN.l4 k L b c (bE n) ((bE n).length : Int) ((i + 1 : Nat) : Int)) r) →
        Ev (fun k=>bN.l4 k L b c (bE n) ((bE n).length : Int) (i : Int)) r:=fun r hr=>by
      refine Ev.step (fun f=>bN.l4.eq_2 ..) (au (by omega) (au (by omega) (au (by omega) ?_)))
      rw [ec,er,wr (x:=(i : Int) + 1) (by omega) (by omega)]
      exact Ev.bind hS hr
    obtain ⟨r1,p1,p2⟩:=counts a0 B b hb d (i + 1) c (by omega)
    obtain ⟨r2,q1,q2⟩:=counts a0 B b hb d (i + 1) (wrap64 (c + 1)) (by omega)
    by_cases hbi : b.getD i false = true
    · refine ⟨r1,Ev.congr (fun k=>by rw [bq.g3]) (au hbi p1),spec _ ?_⟩
      by_cases hd : ((jZ L (cl n (i : Int))).length : Int) = 2
      · exact au hd (au (by omega) (au hbi p2))
      · exact aK hd p2
    · by_cases hd : ((jZ L (cl n (i : Int))).length : Int) = 2
      · refine ⟨r2,Ev.congr (fun k=>by rw [bq.g3]) (aK hbi (Ev.bind hI ?_)),spec _ (au hd (au (by omega) (aK hbi q2)))⟩
        have hd' : ((jZ L ((bE n).getD ((i : Int)).toNat [])).length : Int) = 2:=hd
        rw [if_pos hd'];exact q1
      · refine ⟨r1,Ev.congr (fun k=>by rw [bq.g3]) (aK hbi (Ev.bind hI ?_)),spec _ (aK hd p2)⟩
        have hd' : ¬ ((jZ L ((bE n).getD ((i : Int)).toNat [])).length : Int) = 2:=hd
        rw [if_neg hd'];exact p1
end
theorem an9 (a0 : Int) (l : List Int) (hl : l.length ≤ 1048576) : ∃ r : Int × Bool,r.2 = yT a0 l∧Ev (fun k=>bq.f k a0 l) r∧Ev (fun k=>bN.f k a0 l) r:=by
  have h1:=Zc a0 l hl;have h2:=Pv a0 l hl;cases hk : yT a0 l with
  | false =>
    rw [hk] at h1 h2;exact ⟨(0,false),rfl,Ev.bind (Ev.bind h1 (aK (by decide) (Ev.now _))) (aK (by decide) (Ev.now _)),Ev.bind h2 (aK (by decide) (Ev.now _))⟩
  | true =>
    rw [hk] at h1 h2;obtain ⟨n,e,H⟩:=Rk hk;subst e;have hn:=H.nn;have hlen:=H.len;have hpos : 0 < n * n:=Nat.mul_pos (by have:=H.side.lo;omega) (by have:=H.side.lo;omega)
    have hg : (gates n l).length ≤ 24:=by
      refine Nat.le_trans (List.length_filter_le _ _) ?_;rw [Cq,List.length_map,List.length_range];exact H.MC
    have hfl:=PX (n:=n) (L:=l) (n * n);obtain ⟨b1,hb1,i1,s1⟩:=akg H (n : Int) (eP n) (gates n l).length 0 (List.replicate (n * n) false) (Nat.zero_add _) (by rw [List.length_replicate]);obtain ⟨b2,hb2,i2,s2⟩:=akh H (n : Int) (eP n) (mF n l (n * n)).length 0 b1 (Nat.zero_add _) hb1;obtain ⟨r,i3,s3⟩:=counts H (n : Int) (eP n) b2 hb2 (n * n) 0 0 (Nat.zero_add _);rw [List.drop_zero] at i1 i2
    refine ⟨(r,true),rfl,Ev.bind (Ev.bind h1 (au rfl (Ev.bind H.side.abN (Ev.bind H.side.adJ (Ev.now _))))) (au rfl (au ⟨by show 0 < (bE n).length;omega,by show (bE n).length ≤ 1000000;omega⟩ (Ev.bind (H.Vi (n : Int) (bE n)) (au (by omega) (Ev.bind ?_ (Ev.bind (ajp H (n : Int) (eP n)) (au (by omega) (Ev.bind i2 (Ev.bind ?_ (Ev.now _)))))))))),
      Ev.bind h2 (au rfl (Ev.bind H.side.cellsS (au (by omega) (au (by omega) (Ev.bind H.PV ?_)))))⟩
    · show Ev (fun k=>bq.g1 k (n : Int) l (bE n) (eP n) (gates n l) (List.replicate (bE n).length false)) b1
      rw [hlen];exact i1
    · show Ev (fun k=>bq.g3 k (n : Int) l (bE n) (eP n) b2 (bE n).length 0 0) r
      rw [hlen];exact i3
    · rw [Int.toNat_natCast,hlen]
      exact s1 _ (Ev.bind (ahf H) (s2 _ s3))
end Go.Proofs.Ythaonijhfeemfaa.gF
namespace Go.Proofs.Ythaonijhfeemfaa.gF
open Go.RowKit Go.Proofs.Ythaonijhfeemfaa.dL Go.Proofs.YthaonijhfeemfaaW.bU Go.Proofs.YthaonijhfeemfaaW.fB Go.Proofs.YthaonijhfeemfaaW.iw
set_option linter.unusedVariables false
set_option linter.unusedSimpArgs false
set_option maxRecDepth 100000
def rm (n : Nat) (L s : List Int) (i : Nat) : Int:=(at_ n L (dK n (-1) (inner s)) (inner s) i).1
def rms (n : Nat) (L s : List Int) (k : Nat) : List Int:=(List.range k).map (rm n L s)
structure OB (n : Nat) (L s : List Int) (k : Nat) (dd : List Int) (b : Bool) : Prop where
  short : k < n * n
  room : ∀ i,i ≤ k→Path.inC (n * n) (rm n L s i)∧iN n L (rm n L s i) = (b && decide (i = k))
  apart : ∀ i j,i < j→j ≤ k→rm n L s i≠rm n L s j
  out : b = false→∃ s',s' ∈ gates n L∧dd = inner s'∧Out n L k s s'
section
variable {n : Nat} {L : List Int} (H : Home n L)
include H
theorem Home.aki {s : List Int} (hs : s ∈ gates n L) {p q : Int} (hpq : [mn p q,mx p q] = inner s) : ∃ k dd b,OB n L s k dd b∧(∀ a0 B,Ev (fun k'=>jB.f k' a0 L (bE n) B p q) (rms n L s (k + 1),dd,b))∧Ev (fun k'=>lJ.f k' (n : Int) L p q) (rms n L s (k + 1),dd):=by
  have hpI : qF.f p q = some (inner s):=by rw [← hpq];rfl
  have hpS : oF.f p q = some (inner s):=by rw [← hpq];exact MK p q
  obtain ⟨h0,hb⟩:=H.begin hs;have hin : (inner s).length = 2:=rfl
  have lift : ∀ r : List Int × List Int × Bool,(∀ a0 B,Ev (fun k=>iV.f k a0 L (bE n) B (dK n (-1) (inner s)) (inner s)) r)→∀ a0 B,Ev (fun k=>jB.f k a0 L (bE n) B p q) r:=fun r hr a0 B =>
    dU hpI (Ev.bind (PS H.Dn H.three a0 L B (-1) (d:=inner s) hin) (Ev.bind (hr a0 B) (Ev.now _)))
  have AZ : ∀ r : List Int × List Int,Ev (fun k=>d9.f k (bE n) L (inner s) (dK n (-1) (inner s))) r→Ev (fun k=>lJ.f k (n : Int) L p q) r:=fun r hr =>
    Ev.bind H.side.cellsS (dU hpS (dU hpS (Ev.bind (P6 H.Dn H.three (-1) (d:=inner s) hin) (Ev.bind hr (Ev.now _)))))
  obtain ⟨K,hK,hw,he⟩:=H.walks _ _ hb;rcases he with ⟨he,hi,hsp⟩|⟨hc,hf,hi,hsp⟩
  · cases K with
    | zero=>exact absurd h0 (by have : (at_ n L (dK n (-1) (inner s)) (inner s) 0).1 = dK n (-1) (inner s):=rfl;omega)
    | succ K =>
      have h1 : ∀ i,i ≤ K→0 ≤ (at_ n L (dK n (-1) (inner s)) (inner s) i).1∧iN n L (at_ n L (dK n (-1) (inner s)) (inner s) i).1 = false:=fun i hi=>hw i (by omega)
      obtain ⟨g1,g2⟩:=Path.alive H.house hb K (fun t ht=>(h1 t ht).1) (fun t ht=>(h1 t (by omega)).2);obtain ⟨a1,a2,a3⟩:=H.Zy hs h1 he;obtain ⟨s',hs',e⟩:=H.outside a1 a2 a3;exact ⟨K,_,false,⟨by omega,fun i hi=>⟨(g1 i hi).1,by rw [Bool.false_and];exact (h1 i hi).2⟩,g2,fun _=>⟨s',hs',e.symm,h1,he,e.symm⟩⟩,lift _ hi,AZ _ hsp⟩
  · have h1 : ∀ i,i ≤ K→0 ≤ (at_ n L (dK n (-1) (inner s)) (inner s) i).1:=fun i hi=>by
      rcases Nat.lt_or_ge i K with h|h
      · exact (hw i h).1
      · have : i = K:=by omega
        subst this;exact hc.1
    obtain ⟨g1,g2⟩:=Path.alive H.house hb K h1 (fun t ht=>(hw t ht).2);have hsh:=Path.short H.house hb K h1 (fun t ht=>(hw t ht).2);refine ⟨K,_,true,⟨by omega,fun i hi=>⟨(g1 i hi).1,?_⟩,g2,fun h=>by cases h⟩,lift _ hi,AZ _ hsp⟩;rcases Nat.lt_or_ge i K with h|h
    · rw [decide_eq_false (by omega),Bool.and_false];exact (hw i h).2
    · have : i = K:=by omega
      subst this;rw [decide_eq_true rfl];exact hf
omit H in
theorem aq8 {s : List Int} {k : Nat} {dd : List Int} {b : Bool} (t : OB n L s k dd b) {k' : Nat} {s' : List Int} (ho : Out n L k' s s') : b = false∧k = k':=by
  obtain ⟨h1,h2,h3⟩:=ho
  have hb : b = false:=by
    cases b with
    | false=>rfl
    | true =>
      have r:=t.room k (Nat.le_refl _);rw [decide_eq_true rfl] at r;have r2 : iN n L (rm n L s k) = true:=r.2;rcases Nat.lt_or_ge k' k with h|h
      · have:=(t.room (k' + 1) (by omega)).1.1
        unfold rm at this;omega
      · have:=(h1 k h).2
        unfold rm at r2;rw [this] at r2;cases r2
  subst hb;obtain ⟨s2,_,_,ho2⟩:=t.out rfl;exact ⟨rfl,(ake ho2 ⟨h1,h2,h3⟩).1⟩
theorem Home.aq9 : (gates n L).length ≤ 24:=by
  refine Nat.le_trans (List.length_filter_le _ _) ?_;rw [Cq,List.length_map,List.length_range];exact H.MC
theorem Home.alZ (a0 : Int) (B : List Int) : ∀ d i : Nat,i + d = (gates n L).length→∃ r : Int × Bool,(r.2 = true→Path.inC (n * n) r.1∧iN n L r.1 = true)∧(r.2 = false→∀ s ∈ (gates n L).drop i,∃ k s',Out n L k s s') ∧
    Ev (fun k=>iJ.l0 k (gates n L) ((gates n L).length : Int) (i : Int) a0 L (bE n) B) r∧Ev (fun k=>iE.l0 k (n : Int) L (bE n) (gates n L) ((gates n L).length : Int) (i : Int)) r
  | 0,i,h=>⟨(0,false),(fun h=>by cases h),(fun _ s hs=>by rw [List.drop_eq_nil_of_le (by omega)] at hs;cases hs),Ev.step (fun f=>iJ.l0.eq_2 ..) (aK (by omega) (Ev.now _)),Ev.step (fun f=>iE.l0.eq_2 ..) (aK (by omega) (Ev.now _))⟩
  | d + 1,i,h=>by
    have hlt : i < (gates n L).length:=by omega
    have hg:=H.aq9
    have hm:=List.getElem_mem hlt
    obtain ⟨x',y',e,_,_⟩:=H.step (List.mem_filter.1 hm).1
    have hlen : (gates n L)[i].length = 2:=by rw [e];rfl
    have er : ah (gates n L) (i : Int) = (gates n L)[i]:=by unfold ah;rw [Int.toNat_natCast,List.getD_eq_getElem?_getD,List.getElem?_eq_getElem hlt];rfl
    have hlen':=hlen
    obtain ⟨k,dd,b,t,hi,hs⟩:=H.aki hm (p:=rd (gates n L)[i] 0) (q:=rd (gates n L)[i] 1) rfl
    have hk:=t.short
    have hnn:=H.nn
    have hl : (rms n L (gates n L)[i] (k + 1)).length = k + 1:=by unfold rms;rw [List.length_map,List.length_range]
    have hx:=(t.room k (Nat.le_refl _)).1
    have hrg:=H.range hx
    have l1 : wrap64 (((rms n L (gates n L)[i] (k + 1)).length : Int) - 1) = (k : Int):=by rw [hl,wr (by omega) (by omega)];omega
    have l2 : rd (rms n L (gates n L)[i] (k + 1)) (k : Int) = rm n L (gates n L)[i] k:=by
      rw [uF (by omega)];unfold rms;rw [List.getElem_map,List.getElem_range]
    have hf:=(t.room k (Nat.le_refl _)).2;rw [decide_eq_true rfl,Bool.and_true] at hf;obtain ⟨r,c1,c2,r1,r2⟩:=Home.alZ a0 B d (i + 1) (by omega)
    have ev1 : ∀ {s : Int × Bool},(b = true→s = (rm n L (gates n L)[i] k,true))→(b = false→s = r)→Ev (fun k=>iJ.l0 k (gates n L) ((gates n L).length : Int) (i : Int) a0 L (bE n) B) s:=fun {s} h1 h2=>by
      refine Ev.step (fun f=>iJ.l0.eq_2 ..) (au (by omega) (au (by omega) (au (by omega) ?_)));rw [er];refine au (by omega) (au (by omega) (Ev.bind (hi a0 B) ?_));show Ev (fun k=>if b = true then _ else _) s;cases hb : b with
      | true =>
        refine au rfl ?_;rw [l1,l2,h1 hb];exact au (by omega) (au (by show (k : Int) < ((rms n L (gates n L)[i] (k + 1)).length : Int);omega) (Ev.now _))
      | false =>
        refine aK (by decide) ?_;rw [wr (by omega) (by omega),h2 hb];exact r1
    have ev2 : ∀ {s : Int × Bool},(b = true→s = (rm n L (gates n L)[i] k,true))→(b = false→s = r)→Ev (fun k=>iE.l0 k (n : Int) L (bE n) (gates n L) ((gates n L).length : Int) (i : Int)) s:=fun {s} h1 h2=>by
      refine Ev.step (fun f=>iE.l0.eq_2 ..) (au (by omega) (au (by omega) (au (by omega) ?_)));rw [er];refine au (by omega) (au (by omega) (Ev.bind hs ?_));have ec : ah (bE n) (rm n L (gates n L)[i] k) = cl n (rm n L (gates n L)[i] k):=rfl;have hff : Ev (fun k'=>eT.f k' L (cl n (rm n L (gates n L)[i] k))) b:=by rw [← hf];exact PO H.lbl (H.tri hx)
      rw [l1,l2,ec];refine au (by omega) (au (by show (k : Int) < ((rms n L (gates n L)[i] (k + 1)).length : Int);omega) (au hrg.1 (au hrg.2 (Ev.bind hff ?_))));cases hb : b with
      | true =>
        rw [h1 hb];exact au rfl (Ev.now _)
      | false =>
        refine aK (by decide) ?_;rw [wr (by omega) (by omega),h2 hb];exact r2
    cases hb : b with
    | true =>
      rw [hb] at hf;exact ⟨(rm n L (gates n L)[i] k,true),fun _=>⟨hx,hf⟩,fun z=>by (cases z),ev1 (fun _=>rfl) (fun z=>by rw [hb] at z;cases z),ev2 (fun _=>rfl) (fun z=>by rw [hb] at z;cases z)⟩
    | false =>
      refine ⟨r,c1,fun z s hs=>?_,ev1 (fun z=>by rw [hb] at z;cases z) (fun _=>rfl),ev2 (fun z=>by rw [hb] at z;cases z) (fun _=>rfl)⟩;rw [List.drop_eq_getElem_cons hlt] at hs;rcases List.mem_cons.1 hs with e2|e2
      · obtain ⟨s',_,_,ho⟩:=t.out hb
        exact ⟨k,s',by rw [e2];exact ho⟩
      · exact c2 z s e2
theorem Home.found (hk : Cz n L = true) {r : Int × Bool} (h : r.2 = false→∀ s ∈ gates n L,∃ k s',Out n L k s s') : r.2 = true:=by
  cases hr : r.2 with
  | true=>rfl
  | false =>
    obtain ⟨s,hs,K,h1,h2,h3⟩:=H.apb hk;obtain ⟨k,s',o1,o2,o3⟩:=h hr s hs;rcases Nat.lt_trichotomy (k + 1) K with g|g|g
    · have:=(h1 (k + 1) g).1
      omega
    · subst g
      omega
    · have:=(o1 K (by omega)).2
      rw [h3] at this;cases this
theorem Home.aoH (h1 : Ev (fun k=>iP.f k (n : Int) L) ((n : Int),L,bE n,eP n,true)) (h2 : Ev (fun k=>gG.f k (n : Int) L) true) : Ev (fun k=>tL.f k (n : Int) L) (mF n L (n * n),true)∧Ev (fun k=>tN.f k (n : Int) L) (mF n L (n * n),true) :=
  ⟨Ev.bind h1 (au rfl (Ev.bind (ajp H (n : Int) (eP n)) (Ev.now _))),Ev.bind h2 (au rfl (Ev.bind (ahf H) (Ev.now _)))⟩
omit H in
theorem aoa (m : Nat) : (mF n L m).length = (List.range m).countP fun (c : Nat)=>iN n L (c : Int):=by
  unfold mF;rw [List.length_map,List.countP_eq_length_filter]
omit H in
theorem aoI {m : Nat} {x : Int} (h : Path.inC m x) (hf : iN n L x = true) : x ∈ mF n L m:=by
  unfold Path.inC at h;unfold mF;obtain ⟨y,hy⟩:=Int.eq_ofNat_of_zero_le h.1;subst hy;exact List.mem_map.2 ⟨y,List.mem_filter.2 ⟨List.mem_range.2 (by omega),hf⟩,rfl⟩
end
end Go.Proofs.Ythaonijhfeemfaa.gF
namespace Go.Proofs.Ythaonijhfeemfaa.gF
open Go.RowKit Go.Proofs.YthaonijhfeemfaaOwn Go.Proofs.Ythaonijhfeemfaa.dL Go.Proofs.YthaonijhfeemfaaW.bU Go.Proofs.YthaonijhfeemfaaW.fB Go.Proofs.YthaonijhfeemfaaW.iw
set_option linter.unusedVariables false
set_option linter.unusedSimpArgs false
set_option linter.unusedSectionVars false
set_option maxRecDepth 100000
theorem ara {l : List Int} (h : U8 l) {a : Int} (s m : Int) (h0 : 0 ≤ a) (h1 : a ≤ 4611686018427380000) : ∃ v a' s',yx.f l a s m = some (v,a',s')∧a ≤ a'∧a' ≤ a + 4:=by
  unfold yx.f;obtain ⟨b,a1,s1,e1,b1,c1⟩:=abJ h s 12 h0 (by omega);rw [e1,Option.bind_some];dsimp only;cases b with
  | true =>
    obtain ⟨v,a2,s2,e2,_,b2,c2⟩:=Zv h s1 [-1,0,8,9] (by decide) (show 0 ≤ a1 by omega) (by omega);rw [if_pos rfl,e2,Option.bind_some];exact ⟨_,_,_,rfl,by dsimp only;omega,by dsimp only;omega⟩
  | false =>
    obtain ⟨v,a2,s2,e2,_,_,b2,c2⟩:=vY h s1 m (show 0 ≤ a1 by omega) (by omega);rw [if_neg (by decide),e2,Option.bind_some];exact ⟨_,_,_,rfl,by dsimp only;omega,by dsimp only;omega⟩
theorem arb : ((List.range 9).all fun n=>(cu n).all fun p=>decide (p.f0 + p.f1 + p.f2 = (n : Int))) = true:=by decide +kernel
theorem Side.sum {n : Nat} (h : Side n) {i : Nat} (hi : i < many n) : (rdP (cu n) i).f0 + (rdP (cu n) i).f1 + (rdP (cu n) i).f2 = (n : Int):=by
  have a:=List.all_eq_true.1 arb n (List.mem_range.2 (by have:=h.hi;omega));have hl : i < (cu n).length:=by rw [h.len];exact hi
  have e : rdP (cu n) (i : Int) = (cu n)[i]:=by
    show (cu n).getD ((i : Int)).toNat _ = _;rw [Int.toNat_natCast,List.getD_eq_getElem?_getD,List.getElem?_eq_getElem hl];rfl
  rw [e];exact of_decide_eq_true (List.all_eq_true.1 a _ (List.getElem_mem hl))
section
variable {l : List Int} (h : U8 l) {n : Nat} (hS : Side n)
include h hS
theorem Zo (out : List Int) (i : Nat) (P : List Int × Int × Int→Prop) (X : List Int) (hX : X.length = 3) (hout : out.length ≤ 1000) (A : Int) (hA : A ≤ 4611686018427380000) (cont : ∀ (v a' s' : Int),0 ≤ a'→a' ≤ A + 2→∃ r,Ev (fun f=>gJ.l0 f (n : Int) (out ++ [v]) (wrap64 ((i : Int) + 1)) l a' s') r∧P r) :
    ∀ (d j : Nat) (free : List Int) (a s : Int),j + d = 3→free.length ≤ j→0 ≤ a→a ≤ A→(free≠[] ∨ ∃ q : Nat,j ≤ q∧q < 3∧0 < rd X (q : Int))→∃ r,Ev (fun f=>gJ.l1 f (n : Int) out (i : Int) free X (X.length : Int) (j : Int) l a s) r∧P r
  | 0,j,free,a,s,hj,hf,a0,a1,hx=>by
    have hne : free≠[]:=by
      rcases hx with e|⟨q,q1,q2,_⟩
      · exact e
      · omega
    have hpos : 0 < free.length:=List.length_pos_iff.2 hne;obtain ⟨v,a2,s2,e2,v0,v1,b2,c2⟩:=vY h s (free.length : Int) a0 (by omega);obtain ⟨r,hr,hP⟩:=cont (rd free v) a2 s2 (by omega) (by omega);exact ⟨r,Ev.step (fun f=>gJ.l1.eq_2 ..) (aK (by omega) (dU e2 (au v0 (au (show v < (free.length : Int) by omega) (au (by omega) hr))))),hP⟩
  | d + 1,j,free,a,s,hj,hf,a0,a1,hx=>by
    have ej : True→wrap64 ((j : Int) + 1) = ((j + 1 : Nat) : Int):=fun _=>by rw [wr (by omega) (by omega)];omega
    by_cases hp : rd X (j : Int) > 0
    · obtain ⟨r,hr,hP⟩:=Zo out i P X hX hout A hA cont d (j + 1) (free ++ [(j : Int)]) a s (by omega) (by rw [List.length_append,List.length_singleton];omega) a0 a1 (.inl (by simp))
      refine ⟨r,Ev.step (fun f=>gJ.l1.eq_2 ..) (au (by omega) (au (by omega) (au (by omega) (au hp (au (by omega) ?_))))),hP⟩;rw [ej trivial];exact hr
    · obtain ⟨r,hr,hP⟩:=Zo out i P X hX hout A hA cont d (j + 1) free a s (by omega) (by omega) a0 a1 (by
        rcases hx with e|⟨q,q1,q2,q3⟩
        · exact .inl e
        · rcases Nat.eq_or_lt_of_le q1 with e|e
          · subst e;exact absurd q3 hp
          · exact .inr ⟨q,e,q2,q3⟩)
      refine ⟨r,Ev.step (fun f=>gJ.l1.eq_2 ..) (au (by omega) (au (by omega) (au (by omega) (aK hp ?_)))),hP⟩;rw [ej trivial];exact hr
theorem ahg : ∀ (d i : Nat) (out : List Int) (a s : Int),i + d = many n→out.length = i→0 ≤ a→a + 4 * (d : Int) ≤ 4611686018427380000→∃ r,Ev (fun f=>gJ.l0 f (n : Int) out (i : Int) l a s) r∧(r.1.length = many n∧0 ≤ r.2.1∧r.2.1 ≤ a + 4 * (d : Int))
  | 0,i,out,a,s,hi,ho,a0,a1=>⟨(out,a,s),Ev.step (fun f=>gJ.l0.eq_2 ..) (dU (Fe hS rfl) (aK (by omega) (Ev.now _))),by dsimp only;omega,a0,by dsimp only;omega⟩
  | d + 1,i,out,a,s,hi,ho,a0,a1=>by
    have hm:=ze hS.hi
    have hat:=hS.at_ (i:=i) (by omega)
    have hin:=hS.inside (i:=i) (by omega)
    have hsum:=hS.sum (i:=i) (by omega)
    have hlo:=hS.lo
    obtain ⟨r,hr,h1,h2,h3⟩:=Zo h hS out i (fun r=>r.1.length = many n∧0 ≤ r.2.1∧r.2.1 ≤ a + 4 * ((d + 1 : Nat) : Int)) [(rdP (cu n) i).f0,(rdP (cu n) i).f1,(rdP (cu n) i).f2] rfl (by omega) a (by omega) (fun v a' s' a2 a3=>by
      obtain ⟨r,hr,g1,g2,g3⟩:=ahg d (i + 1) (out ++ [v]) a' s' (by omega) (by rw [List.length_append,List.length_singleton];omega) a2 (by omega)
      refine ⟨r,?_,g1,g2,by omega⟩
      rw [wr (by omega) (by omega)]
      exact hr) 3 0 [] a s rfl (by simp) a0 (by omega) (.inr (by
        by_cases p0 : 0 < (rdP (cu n) i).f0
        · exact ⟨0,by omega,by omega,p0⟩
        · by_cases p1 : 0 < (rdP (cu n) i).f1
          · exact ⟨1,by omega,by omega,p1⟩
          · exact ⟨2,by omega,by omega,show 0 < (rdP (cu n) i).f2 by omega⟩))
    exact ⟨r,Ev.step (fun f=>gJ.l0.eq_2 ..) (dU (Fe hS rfl) (au (by omega) (Ev.bind hat hr))),h1,h2,h3⟩
end
theorem ahO {l : List Int} (h : U8 l) (n : Int) : ∀ (d i : Nat) (L : List Int) (a s : Int),i + d = L.length→L.length ≤ 1000→0 ≤ a→a + 2 * (d : Int) ≤ 4611686018427387000→∃ r : Int × List Int × Int × Int,Ev (fun f=>lg.l0 f n L (L.length : Int) (i : Int) l a s) r∧r.1 = n∧r.2.1.length = L.length∧0 ≤ r.2.2.1∧r.2.2.1 ≤ a + 2 * (d : Int)
  | 0,i,L,a,s,hi,hL,h0,h1=>⟨(n,L,a,s),Ev.step (fun f=>lg.l0.eq_2 ..) (aK (by omega) (Ev.now _)),rfl,rfl,h0,by dsimp only;omega⟩
  | d + 1,i,L,a,s,hi,hL,h0,h1=>by
    obtain ⟨v,a1,s1,e1,_,_,b1,c1⟩:=vY h s 3 h0 (by omega)
    obtain ⟨r,hr,g0,g1,g2,g3⟩:=ahO h n d (i + 1) (L.set i v) a1 s1 (by rw [List.length_set];omega) (by rw [List.length_set];omega) (by omega) (by omega)
    rw [List.length_set] at hr g1
    refine ⟨r,Ev.step (fun f=>lg.l0.eq_2 ..) (au (by omega) (dU e1 (au (by omega) (au (by omega) ?_)))),g0,g1,g2,by omega⟩
    rw [wr (show -9223372036854775808 ≤ (i : Int) + 1 by omega) (by omega),Int.toNat_natCast]
    exact hr
theorem aoJ {l : List Int} (h : U8 l) (m : Int) : ∃ r : Int × List Int × Int × Int,Ev (fun f=>lg.f f l 0 0 m) r∧r.2.1.length ≤ 100∧0 ≤ r.2.2.1∧r.2.2.1 ≤ 1000:=by
  obtain ⟨n,a1,s1,e1,b1,c1⟩:=ara h 0 m (Int.le_refl 0) (by decide);by_cases hs : 1 ≤ n∧n ≤ 8
  · obtain ⟨n',en⟩:=Int.eq_ofNat_of_zero_le (show 0 ≤ n by omega)
    subst en;have hS : Side n':=⟨by omega,by omega⟩;have hm:=ze hS.hi
    have hm3 : 3 ≤ many n':=by
      have hlo:=hS.lo;unfold many;have : 2 * 3 ≤ (n' + 1) * (n' + 2):=Nat.mul_le_mul (by omega) (by omega);omega
    obtain ⟨⟨L,a2,s2⟩,hL,g1,g2,g3⟩:=ahg h hS (many n') 0 [] a1 s1 (Nat.zero_add _) rfl b1 (by omega);dsimp only at g1 g2 g3;obtain ⟨v,a3,s3,e3,v0,v1,b3,c3⟩:=vY h s2 10 g2 (by omega)
    have hr : ∀ r : Int × List Int × Int × Int,Ev (fun f=>if v = 0 then ((fQ.f l a3 s3 (L.length : Int)).bind fun Tg=>((fQ.f l Tg.2.1 Tg.2.2 3).bind fun adM=>(if 0 ≤ Tg.1 then (if Tg.1 < (L.length : Int) then (some ((n' : Int),(L.set (Tg.1 : Int).toNat adM.1),adM.2.1,adM.2.2)) else (none)) else (none)))) else (if v = 1 then ((fQ.f l a3 s3 (L.length : Int)).bind fun Ti=>((rH.f l Ti.2.1 Ti.2.2 (([(-1),3,4611686018427387904] : List Int))).bind fun adN=>(if 0 ≤ Ti.1 then (if Ti.1 < (L.length : Int) then (some ((n' : Int),(L.set (Ti.1 : Int).toNat adN.1),adN.2.1,adN.2.2)) else (none)) else (none)))) else (if v = 2 then (lg.l0 f (n' : Int) L (L.length : Int) 0 l a3 s3) else (if v = 3 then (if L.length < 17592186044416 then (some ((n' : Int),(L ++ [0]),a3,s3)) else (none)) else (some ((n' : Int),L,a3,s3)))))) r→Ev (fun f=>lg.f f l 0 0 m) r:=fun r hr =>
      dU e1 (dU (Zk _) (au (decide_eq_true hs) (Ev.bind (g:=fun f=>gJ.f f l a1 s1 (n' : Int)) hL (dU e3 hr))))
    by_cases h0 : v = 0
    · obtain ⟨v4,a4,s4,e4,w0,w1,b4,c4⟩:=vY h s3 (L.length : Int) (show 0 ≤ a3 by omega) (by omega)
      obtain ⟨v5,a5,s5,e5,_,_,b5,c5⟩:=vY h s4 3 (show 0 ≤ a4 by omega) (by omega);exact ⟨_,hr _ (au h0 (dU e4 (dU e5 (au w0 (au (show v4 < (L.length : Int) by omega) (Ev.now _)))))),by dsimp only;rw [List.length_set];omega,by dsimp only;omega,by dsimp only;omega⟩
    · by_cases h1 : v = 1
      · obtain ⟨v4,a4,s4,e4,w0,w1,b4,c4⟩:=vY h s3 (L.length : Int) (show 0 ≤ a3 by omega) (by omega)
        obtain ⟨v5,a5,s5,e5,_,b5,c5⟩:=Zv h s4 [-1,3,4611686018427387904] (by decide) (show 0 ≤ a4 by omega) (by omega);exact ⟨_,hr _ (aK h0 (au h1 (dU e4 (dU e5 (au w0 (au (show v4 < (L.length : Int) by omega) (Ev.now _))))))),by dsimp only;rw [List.length_set];omega,by dsimp only;omega,by dsimp only;omega⟩
      · by_cases h2 : v = 2
        · obtain ⟨r,hr2,k0,k1,k2,k3⟩:=ahO h (n' : Int) L.length 0 L a3 s3 (Nat.zero_add _) (by omega) (by omega) (by omega)
          exact ⟨r,hr _ (aK h0 (aK h1 (au h2 hr2))),by omega,k2,by omega⟩
        · by_cases h3 : v = 3
          · exact ⟨_,hr _ (aK h0 (aK h1 (aK h2 (au h3 (au (by omega) (Ev.now _)))))),by dsimp only;rw [List.length_append,List.length_singleton];omega,by dsimp only;omega,by dsimp only;omega⟩
          · exact ⟨_,hr _ (aK h0 (aK h1 (aK h2 (aK h3 (Ev.now _))))),by dsimp only;omega,by dsimp only;omega,by dsimp only;omega⟩
  · exact ⟨_,dU e1 (dU (Zk _) (aK (by rw [decide_eq_false hs];decide) (Ev.now _))),by simp,by dsimp only;omega,by dsimp only;omega⟩
theorem ahP {l : List Int} (h : U8 l) (n : Int) : ∀ (d : Nat) (L : List Int) (a s : Int),0 < L.length→L.length ≤ 1000→0 ≤ a→a + 4 * (d : Int) ≤ 4611686018427380000→d ≤ 100→∃ r : Int × List Int × Int × Int,Ev (fun f=>fZ.l0 f n L (d : Int) l a s) r∧r.1 = n∧r.2.1.length = L.length∧0 ≤ r.2.2.1∧r.2.2.1 ≤ a + 4 * (d : Int)
  | 0,L,a,s,hL0,hL,h0,h1,hd=>⟨(n,L,a,s),Ev.step (fun f=>fZ.l0.eq_2 ..) (aK (by omega) (Ev.now _)),rfl,rfl,h0,by dsimp only;omega⟩
  | d + 1,L,a,s,hL0,hL,h0,h1,hd=>by
    obtain ⟨v,a1,s1,e1,v0,v1,b1,c1⟩:=vY h s (L.length : Int) h0 (by omega)
    obtain ⟨v2,a2,s2,e2,_,_,b2,c2⟩:=vY h s1 3 (show 0 ≤ a1 by omega) (by omega)
    obtain ⟨r,hr,g0,g1,g2,g3⟩:=ahP h n d (L.set (v : Int).toNat v2) a2 s2 (by rw [List.length_set];omega) (by rw [List.length_set];omega) (by omega) (by omega) (by omega)
    rw [List.length_set] at g1
    refine ⟨r,Ev.step (fun f=>fZ.l0.eq_2 ..) (au (by omega) (dU e1 (dU e2 (au v0 (au (show v < (L.length : Int) by omega) ?_))))),g0,g1,g2,by omega⟩
    rw [wr (by omega) (by omega),show ((d + 1 : Nat) : Int) - 1 = (d : Int) by omega]
    exact hr
theorem ahQ {a : Int} {L : List Int} (hk : yT a L = true) : 0 < L.length:=by
  obtain ⟨n,e,H⟩:=Rk hk;have h1:=H.lbl.len;have hlo:=H.side.lo;have : 2 * 3 ≤ (n + 1) * (n + 2):=Nat.mul_le_mul (by omega) (by omega);have : 3 ≤ many n:=by unfold many;omega
  omega
theorem ajq {l : List Int} (h : U8 l) (m : Int) : ∃ r : Int × List Int × Int × Int,Ev (fun f=>fZ.f f l 0 0 m) r∧r.2.1.length ≤ 100∧0 ≤ r.2.2.1∧r.2.2.1 ≤ 2000:=by
  obtain ⟨⟨n,L,a,s⟩,hL,g1,g2,g3⟩:=aoJ h m;dsimp only at g1 g2 g3;have hk:=Pv n L (by omega);have skip : Ev (fun f=>fZ.j0 f n L false l a s) (n,L,a,s):=Ev.step (fun f=>fZ.j0.eq_2 ..) (aK (by decide) (Ev.now _))
  cases hb : yT n L with
  | false =>
    rw [hb] at hk;exact ⟨_,Ev.bind hL (Ev.bind hk (aK (by decide) skip)),g1,g2,by dsimp only;omega⟩
  | true =>
    rw [hb] at hk;have hpos:=ahQ hb;obtain ⟨b,a2,s2,e2,b2,c2⟩:=abJ h s 2 g2 (by omega);cases b with
    | false=>exact ⟨(n,L,a2,s2),Ev.bind hL (Ev.bind hk (au rfl (dU e2 (Ev.step (fun f=>fZ.j0.eq_2 ..) (aK Bool.false_ne_true (Ev.now _)))))),g1,by dsimp only;omega,by dsimp only;omega⟩
    | true =>
      obtain ⟨v,a3,s3,e3,v0,v1,b3,c3⟩:=vY h s2 8 (show 0 ≤ a2 by omega) (by omega);obtain ⟨d,ed⟩:=Int.eq_ofNat_of_zero_le v0;subst ed;obtain ⟨r,hr,k0,k1,k2,k3⟩:=ahP h n d L a3 s3 hpos (by omega) (by omega) (by omega) (by omega);exact ⟨r,Ev.bind hL (Ev.bind hk (au rfl (dU e2 (Ev.step (fun f=>fZ.j0.eq_2 ..) (au rfl (dU e3 hr)))))),by omega,k2,by omega⟩
end Go.Proofs.Ythaonijhfeemfaa.gF
namespace Go.Proofs.Ythaonijhfeemfaa.gF
open Go.RowKit Go.Proofs.YthaonijhfeemfaaOwn Go.Proofs.Ythaonijhfeemfaa.dL Go.Proofs.YthaonijhfeemfaaW.bU Go.Proofs.YthaonijhfeemfaaW.fB Go.Proofs.YthaonijhfeemfaaW.iw
set_option linter.unusedVariables false
set_option linter.unusedSectionVars false
set_option maxRecDepth 100000
theorem asG {T : List (List Int)} {i : Nat} (h : i < T.length) : ah T (i : Int) = T[i]:=by
  unfold ah;rw [Int.toNat_natCast,List.getD_eq_getElem?_getD,List.getElem?_eq_getElem h];rfl
theorem apc {l : List Int} (h : U8 l) : ∃ r : Int × List Int × Int × Int,Ev (fun f=>yA.f f l) r∧r.2.1.length ≤ 100:=by
  obtain ⟨⟨n,L,a,s⟩,hL,g1,g2,g3⟩:=ajq h 4;dsimp only at g1 g2 g3;have hk:=Pv n L (by omega);have out : ∀ r : Int × List Int × Int × Int × Int × Int,Ev (fun f=>lI.f f l 0 0) r→Ev (fun f=>yA.f f l) (r.1,r.2.1,r.2.2.1,r.2.2.2.1):=fun r hr=>Ev.bind hr (Ev.now _)
  cases hb : yT n L with
  | false =>
    rw [hb] at hk;exact ⟨_,out _ (Ev.bind hL (Ev.bind hk (aK (by decide) (Ev.now _)))),g1⟩
  | true =>
    rw [hb] at hk;have hpos:=ahQ hb;obtain ⟨n',e,H⟩:=Rk hb;subst e;have hB:=H.PV
    have plain : ∀ (a s : Int),0 ≤ a→a ≤ 3000→∃ r : Int × List Int × Int × Int × Int × Int,Ev (fun f=>lI.j0 f (n' : Int) L (gates n' L) false l a s) r∧r.2.1.length ≤ 100:=fun a s a0 a1=>by
      obtain ⟨v,a2,s2,e2,v0,v1,b2,c2⟩:=vY h s (L.length : Int) a0 (by omega);obtain ⟨v3,a3,s3,e3,_⟩:=Zv h s2 [1,2,3,-1,0] (by decide) (show 0 ≤ a2 by omega) (by omega);exact ⟨_,Ev.step (fun f=>lI.j0.eq_2 ..) (aK Bool.false_ne_true (dU e2 (dU e3 (Ev.now _)))),g1⟩
    by_cases h0 : ((gates n' L).length : Int) > 0
    · obtain ⟨b,a2,s2,e2,b2,c2⟩:=abJ h s 4 g2 (by omega)
      have go : ∀ r : Int × List Int × Int × Int × Int × Int,Ev (fun f=>lI.j0 f (n' : Int) L (gates n' L) (!b) l a2 s2) r→Ev (fun f=>lI.f f l 0 0) r:=fun r hr=>Ev.bind hL (Ev.bind hk (au rfl (Ev.bind hB (au h0 (dU e2 hr)))))
      cases b with
      | true =>
        obtain ⟨r,hr,hl⟩:=plain a2 s2 (by omega) (by omega);exact ⟨_,out r (go r hr),hl⟩
      | false =>
        obtain ⟨v,a3,s3,e3,v0,v1,b3,c3⟩:=vY h s2 ((gates n' L).length : Int) (show 0 ≤ a2 by omega) (by omega);obtain ⟨v',ev⟩:=Int.eq_ofNat_of_zero_le v0;subst ev;have hlt : v' < (gates n' L).length:=by omega
        obtain ⟨x,y,exy,_⟩:=H.step (List.mem_filter.1 (List.getElem_mem hlt)).1;have er : ah (gates n' L) (v' : Int) = [x,y]:=by rw [asG hlt,exy]
        obtain ⟨w,a4,s4,e4,w0,w1,_⟩:=vY h s3 2 (show 0 ≤ a3 by omega) (by omega);have ew : True→wrap64 (1 - w) = 1 - w:=fun _=>wr (by omega) (by omega)
        refine ⟨((n' : Int),L,_,_),out ((n' : Int),L,rd [x,y] w,rd [x,y] (1 - w),a4,s4) (go _ (Ev.step (fun f=>lI.j0.eq_2 ..) (au rfl (dU e3 (au v0 (au (by omega) (dU e4 ?_))))))),g1⟩;dsimp only;rw [er,ew trivial];exact au w0 (au (show w < (([x,y] : List Int).length : Int) by simp;omega) (au (by omega) (au (show 1 - w < (([x,y] : List Int).length : Int) by simp;omega) (Ev.now _))))
    · obtain ⟨r,hr,hl⟩:=plain a s g2 (by omega)
      exact ⟨_,out r (Ev.bind hL (Ev.bind hk (au rfl (Ev.bind hB (aK h0 hr))))),hl⟩
end Go.Proofs.Ythaonijhfeemfaa.gF
namespace Go.Proofs.Ythaonijhfeemfaa.Pure
open Go.RowKit Go.Proofs.YthaonijhfeemfaaOwn Go.Proofs.Ythaonijhfeemfaa.dL Go.Proofs.YthaonijhfeemfaaW.bU Go.Proofs.YthaonijhfeemfaaW.fB Go.Proofs.YthaonijhfeemfaaW.iw Go.Proofs.Ythaonijhfeemfaa.gF
set_option linter.unusedVariables false
set_option linter.unusedSectionVars false
set_option maxRecDepth 100000
theorem ahh (a : List Int) (ha : a.length ≤ 10000) : ∀ d i : Nat,i + d = a.length→Ev (fun f=>je.l0 f a a (a.length : Int) (i : Int)) true
  | 0,i,h=>Ev.step (fun f=>je.l0.eq_2 ..) (aK (by omega) (Ev.now _))
  | d + 1,i,h=>by
    refine Ev.step (fun f=>je.l0.eq_2 ..) (au (by omega) (au (by omega) (au (by omega) (au (by omega) (au rfl ?_)))))
    rw [wr (show -9223372036854775808 ≤ (i : Int) + 1 by omega) (by omega)]
    exact ahh a ha d (i + 1) (by omega)
theorem P7 (a : List Int) (ha : a.length ≤ 10000) : Ev (fun f=>je.f f a a) true:=au rfl (ahh a ha a.length 0 (by omega))
theorem ahR (x : Int) (a : List Int) (ha : a.length ≤ 10000) : ∀ d i : Nat,i + d = a.length→x ∈ a.drop i→Ev (fun f=>mM.l0 f x a (a.length : Int) (i : Int)) true
  | 0,i,h,hx=>by rw [List.drop_eq_nil_of_le (by omega)] at hx;cases hx
  | d + 1,i,h,hx=>by
    have hlt : i < a.length:=by omega
    rw [List.drop_eq_getElem_cons hlt] at hx
    refine Ev.step (fun f=>mM.l0.eq_2 ..) (au (by omega) (au (by omega) (au (by omega) ?_)))
    rw [uF hlt,wr (show -9223372036854775808 ≤ (i : Int) + 1 by omega) (by omega)]
    by_cases e : a[i] = x
    · exact au e (Ev.now _)
    · refine aK e (ahR x a ha d (i + 1) (by omega) ?_)
      rcases List.mem_cons.1 hx with h1|h1
      · exact absurd h1.symm e
      · exact h1
section
variable {n : Nat} {L : List Int} (H : Home n L)
include H
theorem agV : ∀ d i : Nat,i + d = L.length→∃ r : Int,Ev (fun f=>kN.l0 f (cu n) L (L.length : Int) (i : Int)) r∧(r < 0 ↔ ∀ j : Nat,i ≤ j→j < L.length→co (rdP (cu n) (j : Int)) (rd L (j : Int))≠0)
  | 0,i,h=>⟨-1,Ev.step (fun f=>kN.l0.eq_2 ..) (aK (by omega) (Ev.now _)),fun _ j h1 h2=>by omega,fun _=>by decide⟩
  | d + 1,i,h=>by
    have hl:=H.side.len
    have hL:=H.lbl.len
    have hm:=ze H.side.hi
    have ok:=H.lbl.ok (i : Int) (by omega) (by omega)
    obtain ⟨r,h1,h2⟩:=agV d (i + 1) (by omega)
    have bad : co (rdP (cu n) (i : Int)) (rd L (i : Int)) = 0→((i : Int) < 0 ↔ ∀ j : Nat,i ≤ j→j < L.length→co (rdP (cu n) (j : Int)) (rd L (j : Int))≠0):=fun e=>⟨fun z=>by omega,fun z=>absurd e (z i (Nat.le_refl _) (by omega))⟩
    have good : co (rdP (cu n) (i : Int)) (rd L (i : Int))≠0→(r < 0 ↔ ∀ j : Nat,i ≤ j→j < L.length→co (rdP (cu n) (j : Int)) (rd L (j : Int))≠0):=fun e=>⟨fun z j a b=>by
      rcases Nat.lt_or_ge i j with g|g
      · exact h2.1 z j g b
      · have : j = i:=by omega
        subst this;exact e,fun z=>h2.2 fun j a b=>z j (by omega) b⟩
    have ei : True→wrap64 ((i : Int) + 1) = ((i + 1 : Nat) : Int):=fun _=>by rw [wr (by omega) (by omega)];omega
    have go : ∀ {z : Int},Ev (fun k=>if 0 = rd L (i : Int) then (if (rdP (cu n) (i : Int)).f0 = 0 then some (i : Int) else kN.l0 k (cu n) L (L.length : Int) (wrap64 ((i : Int) + 1))) else (if 1 = rd L (i : Int) then (if (rdP (cu n) (i : Int)).f1 = 0 then some (i : Int) else kN.l0 k (cu n) L (L.length : Int) (wrap64 ((i : Int) + 1))) else (if 2 = rd L (i : Int) then (if (rdP (cu n) (i : Int)).f2 = 0 then some (i : Int) else kN.l0 k (cu n) L (L.length : Int) (wrap64 ((i : Int) + 1))) else none))) z→Ev (fun f=>kN.l0 f (cu n) L (L.length : Int) (i : Int)) z:=fun {z} hz =>
      Ev.step (fun f=>kN.l0.eq_2 ..) (au (by omega) (au (by omega) (au (by omega) (au (by omega) hz))))
    rw [ei trivial] at go
    have k : rd L (i : Int) = 0 ∨ rd L (i : Int) = 1 ∨ rd L (i : Int) = 2:=by omega
    unfold co at bad good
    rcases k with k|k|k
    · rw [k,if_pos rfl] at bad good
      by_cases e : (rdP (cu n) (i : Int)).f0 = 0
      · exact ⟨_,go (au k.symm (au e (Ev.now _))),bad e⟩
      · exact ⟨r,go (au k.symm (aK e h1)),good e⟩
    · rw [k,if_neg (by decide),if_pos rfl] at bad good
      by_cases e : (rdP (cu n) (i : Int)).f1 = 0
      · exact ⟨_,go (aK (by omega) (au k.symm (au e (Ev.now _)))),bad e⟩
      · exact ⟨r,go (aK (by omega) (au k.symm (aK e h1))),good e⟩
    · rw [k,if_neg (by decide),if_neg (by decide)] at bad good
      by_cases e : (rdP (cu n) (i : Int)).f2 = 0
      · exact ⟨_,go (aK (by omega) (aK (by omega) (au k.symm (au e (Ev.now _))))),bad e⟩
      · exact ⟨r,go (aK (by omega) (aK (by omega) (au k.symm (aK e h1)))),good e⟩
theorem apd (h1 : Ev (fun k=>o9.f k (n : Int) L) true) : Ev (fun k=>tJ.f k (n : Int) L) (Cz n L,true):=by
  obtain ⟨r,e1,e2⟩:=agV H L.length 0 (Nat.zero_add _)
  have e : decide (r < 0) = Cz n L:=by
    unfold Cz;rw [Bool.eq_iff_iff,decide_eq_true_eq,List.all_eq_true,e2];have hL:=H.lbl.len;exact ⟨fun z j hj=>decide_eq_true (z j (Nat.zero_le _) (by have:=List.mem_range.1 hj;omega)),fun z j _ hj=>of_decide_eq_true (z j (List.mem_range.2 (by omega)))⟩
  rw [← e];exact Ev.bind h1 (au rfl (Ev.bind (Ev.bind H.side.points e1) (Ev.now _)))
end
theorem ard {l : List Int} (h : U8 l) : Ev (fun f=>bH.j5 f l) true:=by
  obtain ⟨⟨m,L,a,s⟩,hL,g1,g2,g3⟩:=ajq h 4;dsimp only at g1;have hd : Ev (fun f=>uR.f f l) (m,L):=Ev.bind (Ev.bind hL (Ev.now _)) (Ev.now _);have k1:=Zc m L (by omega);have k2:=Pv m L (by omega);obtain ⟨c,hc,c1,c2⟩:=an9 m L (by omega);cases hk : yT m L with
  | false =>
    rw [hk] at k1 k2 hc;have f1 : Ev (fun k=>iJ.f k m L) (0,false):=Ev.bind (Ev.bind k1 (aK (by decide) (Ev.now _))) (aK (by decide) (Ev.now _));have f2 : Ev (fun k=>iE.f k m L) (0,false):=Ev.bind k2 (aK (by decide) (Ev.now _));have f3 : Ev (fun k=>tL.f k m L) ([],false):=Ev.bind (Ev.bind k1 (aK (by decide) (Ev.now _))) (aK (by decide) (Ev.now _));have f4 : Ev (fun k=>tN.f k m L) ([],false):=Ev.bind k2 (aK (by decide) (Ev.now _));have f5 : Ev (fun k=>tJ.f k m L) (false,false):=Ev.bind k1 (aK (by decide) (Ev.now _));have sm:=P7 [] (by simp);refine Ev.step (fun f=>bH.j5.eq_2 ..) (Ev.bind hd (Ev.bind f1 (Ev.bind f2 (Ev.bind f3 (Ev.bind f4 (Ev.bind c1 (Ev.bind c2 (Ev.bind f5 (aK (by decide) (au rfl (aK (by decide) (Ev.bind sm (au rfl (aK (by rw [bne_self_eq_false];decide) (au rfl (aK (by decide) (aK (by dsimp only;rw [hc];decide) ?_)))))))))))))))));exact aK (by decide) (aK (by decide) (Ev.now _))
  | true =>
    rw [hk] at k1 k2 hc;obtain ⟨n,e,H⟩:=Rk hk;subst e;have hh : Ev (fun k=>iP.f k (n : Int) L) ((n : Int),L,bE n,eP n,true):=Ev.bind k1 (au rfl (Ev.bind H.side.abN (Ev.bind H.side.adJ (Ev.now _))));obtain ⟨r,r1,r2,r3,r4⟩:=H.alZ (n : Int) (eP n) (gates n L).length 0 (Nat.zero_add _);rw [List.drop_zero] at r2;have f1 : Ev (fun k=>iJ.f k (n : Int) L) r:=Ev.bind hh (au rfl (Ev.bind (H.Vi (n : Int) (bE n)) r3));have f2 : Ev (fun k=>iE.f k (n : Int) L) r:=Ev.bind k2 (au rfl (Ev.bind H.side.cellsS (Ev.bind H.PV r4)));obtain ⟨f3,f4⟩:=H.aoH hh k2;have f5:=apd H k1;have hn:=H.nn;have hfl:=PX (n:=n) (L:=L) (n * n);have sm:=P7 (mF n L (n * n)) (by omega);refine Ev.step (fun f=>bH.j5.eq_2 ..) (Ev.bind hd (Ev.bind f1 (Ev.bind f2 (Ev.bind f3 (Ev.bind f4 (Ev.bind c1 (Ev.bind c2 (Ev.bind f5 (aK (by rw [bne_self_eq_false];decide) (au rfl (aK Bool.false_ne_true (Ev.bind sm (au rfl (aK (by rw [bne_self_eq_false];decide) (au rfl (aK Bool.false_ne_true (aK (by dsimp only;rw [hc];decide) ?_)))))))))))))))));cases hr : r.2 with
    | true =>
      obtain ⟨q1,q2⟩:=r1 hr;refine au rfl (Ev.bind (ahR r.1 (mF n L (n * n)) (by omega) _ 0 (Nat.zero_add _) (by rw [List.drop_zero];exact aoI q1 q2)) (au rfl (au rfl ?_)));cases hkp : Cz n L with
      | false=>exact aK (by decide) (Ev.now _)
      | true =>
        have hodd:=H.aq6 hkp;rw [← aoa] at hodd;refine au rfl (jD (Ev.now _) ?_);rw [beq_iff_eq];show ((mF n L (n * n)).length : Int) % 2 = 1;omega
    | false =>
      refine aK Bool.false_ne_true (au rfl ?_);cases hkp : Cz n L with
      | false=>exact aK (by decide) (Ev.now _)
      | true=>rw [H.found hkp r2] at hr;cases hr
theorem arf {G : List (List Int)} {s p : List Int} (hs : s ∈ G) (e : inner s = p) : isIn G p = true:=by
  unfold isIn;exact List.any_eq_true.2 ⟨s,hs,decide_eq_true e⟩
theorem ahw (dd : List Int) (G : List (List Int)) (hG : G.length ≤ 1000) (hs : ∀ s ∈ G,s.length = 2) (s' : List Int) (h1 : inner s' = dd) (inj : ∀ s ∈ G,inner s = dd→s = s') : ∀ d i : Nat,i + d = G.length→s' ∈ G.drop i→Ev (fun k=>fG.l0 k dd G (G.length : Int) (i : Int)) (s',true)∧Ev (fun k=>fH.l0 k dd G (G.length : Int) (i : Int)) (s',true)
  | 0,i,h,hx=>by rw [List.drop_eq_nil_of_le (by omega)] at hx;cases hx
  | d + 1,i,h,hx=>by
    have hlt : i < G.length:=by omega
    have hl:=hs _ (List.getElem_mem hlt)
    have goI : ∀ {z : List Int × Bool},Ev (fun k=>if (decide (inner G[i] = dd)) = true then some (G[i],true) else fG.l0 k dd G (G.length : Int) ((i + 1 : Nat) : Int)) z→Ev (fun k=>fG.l0 k dd G (G.length : Int) (i : Int)) z:=fun {z} hz=>by
      refine Ev.step (fun f=>fG.l0.eq_2 ..) (au (by omega) (au (by omega) (au (by omega) ?_)))
      rw [Wt hlt,wr (by omega) (by omega)]
      exact au (by omega) (au (by omega) (dU (show qF.f (rd G[i] 0) (rd G[i] 1) = some (inner G[i]) from rfl) (Ev.bind (Zw (inner G[i]) dd (by show 2 ≤ 1000000;decide)) hz)))
    have goS : ∀ {z : List Int × Bool},Ev (fun k=>if (decide (inner G[i] = dd)) = true then some (G[i],true) else fH.l0 k dd G (G.length : Int) ((i + 1 : Nat) : Int)) z→Ev (fun k=>fH.l0 k dd G (G.length : Int) (i : Int)) z:=fun {z} hz=>by
      refine Ev.step (fun f=>fH.l0.eq_2 ..) (au (by omega) (au (by omega) (au (by omega) ?_)))
      rw [Wt hlt,wr (by omega) (by omega)]
      exact au (by omega) (au (by omega) (dU (show oF.f (rd G[i] 0) (rd G[i] 1) = some (inner G[i]) from MK _ _) (Ev.bind (aaX (inner G[i]) dd (by show 2 ≤ 1000000;decide)) hz)))
    by_cases e : inner G[i] = dd
    · have e2:=inj _ (List.getElem_mem hlt) e
      rw [e2] at goI goS
      exact ⟨goI (au (decide_eq_true h1) (Ev.now _)),goS (au (decide_eq_true h1) (Ev.now _))⟩
    · rw [List.drop_eq_getElem_cons hlt] at hx
      have hx' : s' ∈ G.drop (i + 1):=by
        rcases List.mem_cons.1 hx with g|g
        · rw [← g] at e;exact absurd h1 e
        · exact g
      obtain ⟨r1,r2⟩:=ahw dd G hG hs s' h1 inj d (i + 1) (by omega) hx';exact ⟨goI (aK (by rw [decide_eq_false e];decide) r1),goS (aK (by rw [decide_eq_false e];decide) r2)⟩
section
variable {n : Nat} {L : List Int} (H : Home n L)
include H
theorem last3 {s dd : List Int} {k : Nat} {b : Bool} (t : OB n L s k dd b) : (rms n L s (k + 1)).length = k + 1∧wrap64 (((rms n L s (k + 1)).length : Int) - 1) = (k : Int)∧∀ i : Nat,i ≤ k→rd (rms n L s (k + 1)) (i : Int) = rm n L s i:=by
  have hk:=t.short;have hn:=H.nn;have hl : (rms n L s (k + 1)).length = k + 1:=by unfold rms;rw [List.length_map,List.length_range]
  refine ⟨hl,by rw [hl,wr (by omega) (by omega)];omega,fun i hi=>?_⟩;rw [uF (by omega)];unfold rms;rw [List.getElem_map,List.getElem_range]
theorem Zz (h1 : Ev (fun k=>o9.f k (n : Int) L) true) : Ev (fun k=>iP.f k (n : Int) L) ((n : Int),L,bE n,eP n,true):=Ev.bind h1 (au rfl (Ev.bind H.side.abN (Ev.bind H.side.adJ (Ev.now _))))
theorem ahS (h1 : Ev (fun k=>o9.f k (n : Int) L) true) (h2 : Ev (fun k=>gG.f k (n : Int) L) true) {s : List Int} (hs : s ∈ gates n L) {p q : Int} (hpq : [mn p q,mx p q] = inner s) : ∃ k dd b,OB n L s k dd b∧Ev (fun f=>uS.f f (n : Int) L p q) (rms n L s (k + 1),b,true)∧Ev (fun f=>pV.f f (n : Int) L p q) (rms n L s (k + 1),b,true) ∧
    ∀ x : List Int × Bool,(b = true→x = ([],false))→(b = false→∃ s',s' ∈ gates n L∧dd = inner s'∧x = (s',true))→Ev (fun f=>fG.f f (n : Int) L p q) x∧Ev (fun f=>fH.f f (n : Int) L p q) x:=by
  have hI:=H.ag9 (n : Int) p q;have hS:=H.aha h2 p q;rw [arf hs hpq.symm] at hI hS;have hh:=Zz H h1;obtain ⟨k,dd,b,t,hi,hsp⟩:=H.aki hs hpq;obtain ⟨hl,l1,l2⟩:=last3 H t;have l2:=l2 k (Nat.le_refl _);have hx:=(t.room k (Nat.le_refl _)).1;have hf:=(t.room k (Nat.le_refl _)).2;rw [decide_eq_true rfl,Bool.and_true] at hf;have hrg:=H.range hx;have ec : ah (bE n) (rm n L s k) = cl n (rm n L s k):=rfl;have hff : Ev (fun k'=>eT.f k' L (cl n (rm n L s k))) b:=by rw [← hf];exact PO H.lbl (H.tri hx)
  have lt : (k : Int) < ((rms n L s (k + 1)).length : Int):=by omega
  refine ⟨k,dd,b,t,Ev.bind hh (au rfl (Ev.bind hI (au rfl (Ev.bind (hi (n : Int) (eP n)) (Ev.now _))))),?_,fun x x1 x2=>?_⟩
  · refine Ev.bind hS (au rfl (Ev.bind hsp (Ev.bind H.side.cellsS ?_)))
    show Ev (fun k'=>if 0 ≤ wrap64 (((rms n L s (k + 1)).length : Int) - 1) then _ else _) _;rw [l1,l2,ec];exact au (by omega) (au lt (au hrg.1 (au hrg.2 (Ev.bind hff (Ev.now _)))))
  · have goI : ∀ {z : List Int × Bool},Ev (fun k=>if b = true then some (([] : List Int),false) else (jO.f k (n : Int) L (bE n) (eP n)).bind fun XR=>(fG.l0 k dd XR (XR.length : Int) 0)) z→Ev (fun k=>fG.f k (n : Int) L p q) z:=fun {z} hz =>
      Ev.bind hh (au rfl (Ev.bind hI (Ev.step (fun f=>fG.j0.eq_2 ..) (aK (by decide) (Ev.bind (hi (n : Int) (eP n)) hz)))))
    have goS : ∀ {z : List Int × Bool},Ev (fun k=>if b = true then some (([] : List Int),false) else (fu.f k (n : Int) L).bind fun anK=>(fH.l0 k dd anK (anK.length : Int) 0)) z→Ev (fun k=>fH.f k (n : Int) L p q) z:=fun {z} hz=>by
      refine Ev.bind hS (au rfl (Ev.bind hsp (Ev.bind H.side.cellsS ?_)));show Ev (fun k'=>if 0 ≤ wrap64 (((rms n L s (k + 1)).length : Int) - 1) then _ else _) _;rw [l1,l2,ec];exact au (by omega) (au lt (au hrg.1 (au hrg.2 (Ev.bind hff hz))))
    cases hb : b with
    | true =>
      rw [x1 hb];exact ⟨goI (au hb (Ev.now _)),goS (au hb (Ev.now _))⟩
    | false =>
      obtain ⟨s',q1,q2,q3⟩:=x2 hb;subst q3;obtain ⟨r1,r2⟩:=ahw dd (gates n L) (Nat.le_trans H.Zn (by decide)) (fun s hs=>H.Vw hs) s' q2.symm (fun a ha e=>H.anJ ha q1 (by rw [e,q2])) (gates n L).length 0 (Nat.zero_add _) (by rw [List.drop_zero];exact q1);exact ⟨goI (aK (by rw [hb];decide) (Ev.bind (H.Vi (n : Int) (bE n)) r1)),goS (aK (by rw [hb];decide) (Ev.bind H.PV r2))⟩
theorem aoK (h1 : Ev (fun k=>o9.f k (n : Int) L) true) {c : Int} (hc : Path.inC (n * n) c) : Ev (fun f=>za.f f (n : Int) L c) (iN n L c,true):=by
  have hn:=H.nn;have hlo:=H.side.lo;have hhi:=H.side.hi;have hr:=H.range hc;have e : wrap64 ((n : Int) * (n : Int)) = ((n * n : Nat) : Int):=by rw [wr (by rw [← Int.natCast_mul];omega) (by rw [← Int.natCast_mul];omega),Int.natCast_mul]
  have h3 : Dp.f (n : Int) c = some true:=by
    unfold Dp.f;rw [aho,Option.bind_some,if_pos (decide_eq_true (by omega)),aaW,Option.bind_some,e,wr (by omega) (by omega),decide_eq_true (by unfold Path.inC at hc;omega)]
  exact Ev.bind (Zz H h1) (au rfl (dU h3 (au rfl (dU (Vp H.lbl (n : Int) (bE n) (eP n) hr.1 hr.2 (H.tri hc)) (Ev.now _)))))
theorem ahi (l X : List Int) (Y : Bool) {s dd : List Int} {k : Nat} {b : Bool} (t : OB n L s k dd b) (i : Nat) (hi : i ≤ k)
    (cont : Ev (fun f=>bH.l0 f l (n : Int) L (rms n L s (k + 1)) b X Y (rms n L s (k + 1)) ((rms n L s (k + 1)).length : Int) ((i + 1 : Nat) : Int)) true) :
    ∀ d j : Nat,j + d = i→Ev (fun f=>bH.l1 f l (n : Int) L (rms n L s (k + 1)) b X Y (rm n L s i) (rms n L s (k + 1)) ((rms n L s (k + 1)).length : Int) (i : Int) ((rms n L s (k + 1)).take i) (((rms n L s (k + 1)).take i).length : Int) (j : Int)) true
  | 0,j,h=>by
    obtain ⟨hl,_,_⟩:=last3 H t
    have hn:=H.nn
    have hk:=t.short
    have ht : ((rms n L s (k + 1)).take i).length = i:=by rw [List.length_take];omega
    have ei : True→wrap64 ((i : Int) + 1) = ((i + 1 : Nat) : Int):=fun _=>by rw [wr (by omega) (by omega)];omega
    refine Ev.step (fun f=>bH.l1.eq_2 ..) (aK (by omega) ?_)
    rw [ei trivial]
    exact cont
  | d + 1,j,h=>by
    obtain ⟨hl,_,l2⟩:=last3 H t
    have hn:=H.nn
    have hk:=t.short
    have ht : ((rms n L s (k + 1)).take i).length = i:=by rw [List.length_take];omega
    have ej : True→wrap64 ((j : Int) + 1) = ((j + 1 : Nat) : Int):=fun _=>by rw [wr (by omega) (by omega)];omega
    have er : rd ((rms n L s (k + 1)).take i) (j : Int) = rm n L s j:=by
      rw [uF (by omega),List.getElem_take,← l2 j (by omega),uF (by omega)]
    refine Ev.step (fun f=>bH.l1.eq_2 ..) (au (by omega) (au (by omega) (au (by omega) ?_)));rw [er,ej trivial];exact aK (t.apart j i (by omega) hi) (ahi l X Y t i hi cont d (j + 1) (by omega))
theorem Zp (h1 : Ev (fun k=>o9.f k (n : Int) L) true) (l X : List Int) (Y : Bool) {s dd : List Int} {k : Nat} {b : Bool} (t : OB n L s k dd b) (cont : Ev (fun f=>bH.j4 f l (n : Int) L (rms n L s (k + 1)) X Y) true) :
    ∀ d i : Nat,i + d = k + 1→Ev (fun f=>bH.l0 f l (n : Int) L (rms n L s (k + 1)) b X Y (rms n L s (k + 1)) ((rms n L s (k + 1)).length : Int) (i : Int)) true
  | 0,i,h=>by
    obtain ⟨hl,_,_⟩:=last3 H t
    exact Ev.step (fun f=>bH.l0.eq_2 ..) (aK (by omega) cont)
  | d + 1,i,h=>by
    obtain ⟨hl,l1,l2⟩:=last3 H t
    have next:=Zp h1 l X Y t cont d (i + 1) (by omega)
    have rest:=ahi H l X Y t i (by omega) next i 0 (Nat.zero_add _)
    obtain ⟨hc,hf⟩:=t.room i (by omega)
    have go : Ev (fun f=>bH.j2 f l (n : Int) L (rms n L s (k + 1)) b X Y (i : Int) (rm n L s i) (rms n L s (k + 1)) ((rms n L s (k + 1)).length : Int) (i : Int) false) true :=
      Ev.step (fun f=>bH.j2.eq_2 ..) (aK Bool.false_ne_true (au (by omega) (au (by omega) (dU rfl (by rw [Int.toNat_natCast];exact rest)))))
    refine Ev.step (fun f=>bH.l0.eq_2 ..) (au (by omega) (au (by omega) (au (by omega) ?_)))
    rw [l2 i (by omega)]
    refine Ev.bind (aoK H h1 hc) (au rfl ?_)
    dsimp only
    rw [hf,l1]
    cases b with
    | true =>
      refine au rfl ?_
      rw [show ((true && decide (i = k)) != ((i : Int) == (k : Int))) = false by
        by_cases e : i = k
        · subst e;simp
        · rw [decide_eq_false e,show ((i : Int) == (k : Int)) = false by rw [beq_eq_false_iff_ne];omega];rfl]
      exact go
    | false=>exact aK Bool.false_ne_true go
end
theorem FnWalksEndFull : bH.Pure:=by
  intro l0 l1 _ _ u0 _ _ u1;apply Ev.rounds
  obtain ⟨b,hb⟩ : ∃ b,Dr.f l0 l1 = some b:=by
    unfold Dr.f;split <;> exact ⟨_,rfl⟩
  refine dU hb ?_;cases b with
  | true=>exact au rfl (Ev.now _)
  | false =>
    refine aK (by decide) ?_;obtain ⟨⟨m,L,p,q⟩,hd,hl⟩:=apc u0;dsimp only at hl;have hd : Ev (fun f=>yw.f f l0) (m,L,p,q):=Ev.bind hd (Ev.now _);have k1:=Zc m L (by omega);have k2:=Pv m L (by omega);have tl:=ard u1;have sm:=P7 [] (by simp);have noI : ∀ x0 x1 x2 x3,Ev (fun k=>fG.j0 k p q true x0 x1 x2 x3) ([],false):=fun x0 x1 x2 x3=>Ev.step (fun f=>fG.j0.eq_2 ..) (au rfl (Ev.now _))
    have two : (Ev (fun f=>uS.f f m L p q) ([],false,false)∧Ev (fun f=>pV.f f m L p q) ([],false,false)∧Ev (fun f=>fG.f f m L p q) ([],false)∧Ev (fun f=>fH.f f m L p q) ([],false)) ∨
        (∃ n : Nat,m = (n : Int)∧Home n L∧Ev (fun k=>o9.f k m L) true∧Ev (fun k=>gG.f k m L) true∧∃ s ∈ gates n L,[mn p q,mx p q] = inner s):=by
      cases hk : yT m L with
      | false =>
        rw [hk] at k1 k2;exact .inl ⟨Ev.bind (Ev.bind k1 (aK (by decide) (Ev.now _))) (aK (by decide) (Ev.now _)),Ev.bind (Ev.bind k2 (aK (by decide) (Ev.now _))) (aK (by decide) (Ev.now _)),Ev.bind (Ev.bind k1 (aK (by decide) (Ev.now _))) (aK (by decide) (noI _ _ _ _)),Ev.bind (Ev.bind k2 (aK (by decide) (Ev.now _))) (aK (by decide) (Ev.now _))⟩
      | true =>
        rw [hk] at k1 k2;obtain ⟨n,e,H⟩:=Rk hk;subst e;have hh:=Zz H k1;have hI:=H.ag9 (n : Int) p q;have hS:=H.aha k2 p q;cases hin : isIn (gates n L) [mn p q,mx p q] with
        | false =>
          rw [hin] at hI hS;exact .inl ⟨Ev.bind hh (au rfl (Ev.bind hI (aK (by decide) (Ev.now _)))),Ev.bind hS (aK (by decide) (Ev.now _)),Ev.bind hh (au rfl (Ev.bind hI (noI _ _ _ _))),Ev.bind hS (aK (by decide) (Ev.now _))⟩
        | true =>
          obtain ⟨s,hs,es⟩:=ao6 hin;exact .inr ⟨n,rfl,H,k1,k2,s,hs,es⟩
    clear k1 k2;rcases two with ⟨w1,w2,e1,e2⟩|⟨n,e,H,k1,k2,s,hs,es⟩
    · exact Ev.bind hd (Ev.bind w1 (Ev.bind w2 (Ev.bind e1 (Ev.bind e2 (aK Bool.false_ne_true (Ev.bind sm (au rfl (aK Bool.false_ne_true (aK Bool.false_ne_true (Ev.bind sm (au rfl (aK Bool.false_ne_true (Ev.step (fun f=>bH.j0.eq_2 ..) (aK Bool.false_ne_true (aK Bool.false_ne_true (Ev.step (fun f=>bH.j4.eq_2 ..) (aK Bool.false_ne_true tl)))))))))))))))))
    · subst e
      obtain ⟨k,dd,b,t,w1,w2,ex⟩:=ahS H k1 k2 hs es;obtain ⟨hlen,z1,z2⟩:=last3 H t;have hn:=H.nn;have hsh:=t.short;have sw:=P7 (rms n L s (k + 1)) (by omega);cases b with
      | true =>
        obtain ⟨e1,e2⟩:=ex ([],false) (fun _=>rfl) (fun h=>by cases h);have c4 : Ev (fun f=>bH.j4 f l1 (n : Int) L (rms n L s (k + 1)) [] false) true:=Ev.step (fun f=>bH.j4.eq_2 ..) (aK Bool.false_ne_true tl);exact Ev.bind hd (Ev.bind w1 (Ev.bind w2 (Ev.bind e1 (Ev.bind e2 (aK Bool.false_ne_true (Ev.bind sw (au rfl (aK Bool.false_ne_true (aK Bool.false_ne_true (Ev.bind sm (au rfl (au rfl (Ev.step (fun f=>bH.j0.eq_2 ..) (aK Bool.false_ne_true (au rfl (Zp H k1 l1 [] false t c4 (k + 1) 0 (Nat.zero_add _)))))))))))))))))
      | false =>
        obtain ⟨s',q1,q2,q3⟩:=t.out rfl;obtain ⟨e1,e2⟩:=ex (s',true) (fun h=>by cases h) (fun _=>⟨s',q1,q2,rfl⟩);have l2:=H.Vw q1;have sx:=P7 s' (by omega);obtain ⟨b1,b2⟩:=H.aaZ hs q3;obtain ⟨k',dd',b',t',v1,_,_⟩:=ahS H k1 k2 q1 (p:=rd s' 0) (q:=rd s' 1) rfl;obtain ⟨hb',hk'⟩:=aq8 t' b2;subst hb' hk';obtain ⟨hlen',_,z2'⟩:=last3 H t'
        have c4 : Ev (fun f=>bH.j4 f l1 (n : Int) L (rms n L s (k' + 1)) s' true) true:=by
          refine Ev.step (fun f=>bH.j4.eq_2 ..) (au rfl (au (by omega) (au (by omega) (Ev.bind v1 (au rfl (aK Bool.false_ne_true (au (by dsimp only;omega) (au (by dsimp only;omega) ?_))))))));rw [z1,z2 k' (Nat.le_refl _)];have z3:=z2' 0 (Nat.zero_le _);refine au (by omega) (au (by omega) (au ?_ tl));exact z3.trans b1
        exact Ev.bind hd (Ev.bind w1 (Ev.bind w2 (Ev.bind e1 (Ev.bind e2 (aK Bool.false_ne_true (Ev.bind sw (au rfl (aK Bool.false_ne_true (aK Bool.false_ne_true (Ev.bind sx (au rfl (au rfl (Ev.step (fun f=>bH.j0.eq_2 ..) (aK Bool.false_ne_true (au rfl (Zp H k1 l1 s' true t c4 (k' + 1) 0 (Nat.zero_add _)))))))))))))))))
end Go.Proofs.Ythaonijhfeemfaa.Pure
