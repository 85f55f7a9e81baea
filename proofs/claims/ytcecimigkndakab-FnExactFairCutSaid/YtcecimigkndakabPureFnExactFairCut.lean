/- The law's text, and what it rests on, in one. -/
import Derived.Test.YtcecimigkndakabPFnExactFairCutx
/-! Plain lemmas on numbers and rounds. -/
namespace Go.Proofs.Ytcecimigkndakab.QFnExactFairCut
open Go.RowKit Go.Proofs.Ytcecimigkndakab.PFnExactFairCut Go.Proofs.YtcecimigkndakabW.PrintWords Go.Proofs.YtcecimigkndakabW.PrintLast Go.Proofs.YtcecimigkndakabW.PrintMore
set_option linter.unusedVariables false
set_option linter.unusedSimpArgs false
theorem wr {x : Int} (h : -9223372036854775808 ≤ x) (h' : x ≤ 9223372036854775807) : wrap64 x = x:=by unfold wrap64;omega
theorem ev_eq {α : Type} {g : Nat→Option α} {r s : α} (h : Ev g r) (e : r = s) : Ev g s:=e ▸ h
theorem ev_const {α : Type} {o : Option α} {r : α} (h : o = some r) : Ev (fun _=>o) r:=⟨0,fun _ _=>h⟩
/-- The values of two runs of one program are the same. -/
theorem ev_one {α : Type} {g : Nat→Option α} {r s : α} (h : Ev g r) (h' : Ev g s) : r = s:=by
  obtain ⟨K,h⟩:=h;obtain ⟨K',h'⟩:=h';have a:=h (max K K') (by omega);have b:=h' (max K K') (by omega);rw [a] at b;exact Option.some.inj b
theorem ev_bind0 {α β : Type} {o : Option α} {f : Nat→α→Option β} {a : α} {r : β} (h : o = some a) (k : Ev (fun n=>f n a) r) : Ev (fun n=>o.bind (f n)) r :=
  Ev.bind (g:=fun _=>o) (ev_const h) k
theorem ev_pos {α : Type} {c : Prop} [Decidable c] {f g : Nat→Option α} {r : α} (h : c) (k : Ev f r) : Ev (fun n=>if c then f n else g n) r:=Ev.congr (fun _=>if_pos h) k
theorem ev_neg {α : Type} {c : Prop} [Decidable c] {f g : Nat→Option α} {r : α} (h : ¬ c) (k : Ev g r) : Ev (fun n=>if c then f n else g n) r:=Ev.congr (fun _=>if_neg h) k
theorem rd_get {l : List Int} {i : Int} (h0 : 0 ≤ i) (h : i < l.length) : l[i.toNat]? = some (rd l i):=by
  unfold rd;rw [List.getD_eq_getElem?_getD,List.getElem?_eq_getElem (by omega)];rfl
theorem rd_nat (l : List Int) (i : Nat) : rd l (i : Int) = l.getD i 0:=rfl
theorem rd_one (x : Int) : rd [x] 0 = x:=rfl
end Go.Proofs.Ytcecimigkndakab.QFnExactFairCut
/-! The laws' own helpers on lists of numbers: a list is equal to itself; what is marked is held. -/
namespace Go.Proofs.Ytcecimigkndakab.QFnExactFairCut
open Go.RowKit Go.Proofs.Ytcecimigkndakab.PFnExactFairCut Go.Proofs.YtcecimigkndakabW.PrintWords Go.Proofs.YtcecimigkndakabW.PrintLast Go.Proofs.YtcecimigkndakabW.PrintMore
set_option linter.unusedVariables false
set_option linter.unusedSimpArgs false
/-- eqIntS of a list with itself. -/
theorem eqIntS_l0 (l : List Int) (hl : l.length < 4611686018427387904) : ∀ (d : Nat) (i : Int),0 ≤ i→(l.length : Int) - i ≤ d→Ev (fun k=>laws_eqIntS.l0 k l l i) true:=by
  intro d;induction d with
  | zero =>
    intro i h0 h;exact Ev.step (f:=fun _=>some true) (fun k=>by simp only [laws_eqIntS.l0];rw [if_neg (by omega)]) (Ev.now _)
  | succ d ih =>
    intro i h0 h;by_cases hi : i < (l.length : Int)
    · exact Ev.step (f:=fun k=>laws_eqIntS.l0 k l l (i + 1)) (fun k=>by simp only [laws_eqIntS.l0];rw [if_pos hi,if_pos h0,if_pos hi,wr (by omega) (by omega)];simp) (ih (i + 1) (by omega) (by omega))
    · exact Ev.step (f:=fun _=>some true) (fun k=>by simp only [laws_eqIntS.l0];rw [if_neg hi]) (Ev.now _)
theorem eqIntS_self (l : List Int) (hl : l.length < 4611686018427387904) : Ev (fun k=>laws_eqIntS.f k l l) true :=
  Ev.congr (f:=fun k=>laws_eqIntS.l0 k l l 0) (fun k=>by unfold laws_eqIntS.f;rw [if_pos rfl]) (eqIntS_l0 l hl l.length 0 (by omega) (by omega))
end Go.Proofs.Ytcecimigkndakab.QFnExactFairCut
/-! toIntS copies a list. -/
namespace Go.Proofs.Ytcecimigkndakab.QFnExactFairCut
open Go.RowKit Go.Proofs.Ytcecimigkndakab.PFnExactFairCut Go.Proofs.YtcecimigkndakabW.PrintWords Go.Proofs.YtcecimigkndakabW.PrintLast Go.Proofs.YtcecimigkndakabW.PrintMore
set_option linter.unusedVariables false
set_option linter.unusedSimpArgs false
set_option maxRecDepth 100000
/-- toIntS copies. -/
theorem toIntS_loop (l : List Int) (hl : l.length ≤ 1048576) : ∀ d i : Nat,i + d = l.length→Ev (fun k=>laws_toIntS.l0 k l (l.take i ++ List.replicate d 0) (i : Int)) l
  | 0,i,h=>by
    refine Ev.step (fun f=>laws_toIntS.l0.eq_2 ..) (ev_neg (by omega) (ev_eq (Ev.now _) ?_))
    rw [List.take_of_length_le (by omega)];simp
  | d + 1,i,h=>by
    have hlt : i < l.length:=by omega
    have hz : (l.take i ++ List.replicate (d + 1) 0).length = l.length:=by simp;omega
    refine Ev.step (fun f=>laws_toIntS.l0.eq_2 ..) (ev_pos (by omega) (ev_pos (by omega) (ev_pos (by rw [hz];omega) ?_)))
    have e1 : ((i : Int)).toNat = i:=by omega
    rw [e1,wr (by omega) (by omega),rd_nat]
    have e2 : (l.take i ++ List.replicate (d + 1) 0).set i (l.getD i 0) = l.take (i + 1) ++ List.replicate d 0:=by
      have e3 : l.getD i 0 = l[i]:=by rw [List.getD_eq_getElem?_getD,List.getElem?_eq_getElem hlt];rfl
      rw [e3,List.set_append,if_neg (by simp;omega),List.length_take,Nat.min_eq_left (by omega),Nat.sub_self,List.replicate_succ,List.set_cons_zero,List.take_succ_eq_append_getElem hlt,List.append_assoc];rfl
    rw [e2];exact toIntS_loop l hl d (i + 1) (by omega)
theorem toIntS_ev (l : List Int) (hl : l.length ≤ 1048576) : Ev (fun k=>laws_toIntS.f k l) l:=by
  refine ev_pos (by omega) (ev_pos (by omega) ?_);have:=toIntS_loop l hl l.length 0 (by omega);have e1 : ((l.length : Int)).toNat = l.length:=by omega
  rw [e1];simpa using this
end Go.Proofs.Ytcecimigkndakab.QFnExactFairCut
/-! Triangles: points, neighbours and cells, of the program and of the reference, as plain functions. -/
namespace Go.Proofs.Ytcecimigkndakab.QFnExactFairCut
open Go.RowKit Go.Proofs.Ytcecimigkndakab.PFnExactFairCut Go.Proofs.YtcecimigkndakabW.PrintWords Go.Proofs.YtcecimigkndakabW.PrintLast Go.Proofs.YtcecimigkndakabW.PrintMore
set_option linter.unusedVariables false
set_option linter.unusedSimpArgs false
set_option maxRecDepth 100000
abbrev Pt:=S42
abbrev rdP : List Pt→Int→Pt:=rd_T42
/-- The points of a triangle. -/
def ptsFn (n : Nat) : List Pt:=(List.range (n + 1)).flatMap fun (r : Nat)=>(List.range (r + 1)).map fun (c : Nat)=>(⟨(n : Int) - r,(r : Int) - c,(c : Int)⟩ : Pt)
def many (n : Nat) : Nat:=(n + 1) * (n + 2) / 2
def nearFn (p q : Pt) : Bool :=
  let a:=mx (p.f0 - q.f0) (q.f0 - p.f0)
  let b:=mx (p.f1 - q.f1) (q.f1 - p.f1)
  let c:=mx (p.f2 - q.f2) (q.f2 - p.f2)
  decide (a + b + c = 2) && decide (mx (mx (mx 0 a) b) c = 1)
/-- Coordinates are small. -/
def Small (p : Pt) : Prop:=(-100 ≤ p.f0∧p.f0 ≤ 100)∧(-100 ≤ p.f1∧p.f1 ≤ 100)∧(-100 ≤ p.f2∧p.f2 ≤ 100)
theorem mx_sub (x y : Int) (hx : -100 ≤ x∧x ≤ 100) (hy : -100 ≤ y∧y ≤ 100) : 0 ≤ mx (x - y) (y - x)∧mx (x - y) (y - x) ≤ 200:=by unfold mx;split <;> omega
theorem u1 : wrap64 1 = 1:=wr (by omega) (by omega)
theorem u2 : wrap64 2 = 2:=wr (by omega) (by omega)
theorem u3 : wrap64 3 = 3:=wr (by omega) (by omega)
theorem w01 : wrap64 (0 + 1) = 1:=wr (by omega) (by omega)
theorem w12 : wrap64 (1 + 1) = 2:=wr (by omega) (by omega)
theorem w23 : wrap64 (2 + 1) = 3:=wr (by omega) (by omega)
theorem near_ev (p q : Pt) (hp : Small p) (hq : Small q) : Ev (fun k=>impl_near.f k p.f0 p.f1 p.f2 q.f0 q.f1 q.f2) (nearFn p q):=by
  obtain ⟨h0,h1,h2⟩:=hp;obtain ⟨g0,g1,g2⟩:=hq;have a0 : wrap64 (p.f0 - q.f0) = p.f0 - q.f0:=wr (by omega) (by omega);have a1 : wrap64 (p.f1 - q.f1) = p.f1 - q.f1:=wr (by omega) (by omega);have a2 : wrap64 (p.f2 - q.f2) = p.f2 - q.f2:=wr (by omega) (by omega);have b0 : wrap64 (q.f0 - p.f0) = q.f0 - p.f0:=wr (by omega) (by omega);have b1 : wrap64 (q.f1 - p.f1) = q.f1 - p.f1:=wr (by omega) (by omega);have b2 : wrap64 (q.f2 - p.f2) = q.f2 - p.f2:=wr (by omega) (by omega);have m0:=mx_sub p.f0 q.f0 h0 g0;have m1:=mx_sub p.f1 q.f1 h1 g1;have m2:=mx_sub p.f2 q.f2 h2 g2;unfold nearFn;dsimp only;generalize ha : mx (p.f0 - q.f0) (q.f0 - p.f0) = a at *;generalize hb : mx (p.f1 - q.f1) (q.f1 - p.f1) = b at *;generalize hc : mx (p.f2 - q.f2) (q.f2 - p.f2) = c at *;have s0 : wrap64 (0 + a) = a:=(wr (by omega) (by omega)).trans (by omega);have s1 : wrap64 (a + b) = a + b:=wr (by omega) (by omega);have s2 : wrap64 (a + b + c) = a + b + c:=wr (by omega) (by omega);refine Ev.congr (f:=fun k=>impl_near.l0 k 0 0 0 p.f0 p.f1 p.f2 q.f0 q.f1 q.f2) (fun k=>rfl) ?_;refine Ev.step (f:=fun k=>impl_near.l0 k a (mx 0 a) 1 p.f0 p.f1 p.f2 q.f0 q.f1 q.f2) (fun k=>by simp only [impl_near.l0,a0,b0,ha,s0,w01];simp) ?_;refine Ev.step (f:=fun k=>impl_near.l0 k (a + b) (mx (mx 0 a) b) 2 p.f0 p.f1 p.f2 q.f0 q.f1 q.f2) (fun k=>by simp only [impl_near.l0,a1,b1,hb,s1,w12];simp) ?_;refine Ev.step (f:=fun k=>impl_near.l0 k (a + b + c) (mx (mx (mx 0 a) b) c) 3 p.f0 p.f1 p.f2 q.f0 q.f1 q.f2) (fun k=>by simp only [impl_near.l0,a2,b2,hc,s2,w23];simp) ?_;refine Ev.step (f:=fun _=>some (decide (a + b + c = 2) && decide (mx (mx (mx 0 a) b) c = 1))) (fun k=>?_) (Ev.now _);simp only [impl_near.l0];rw [if_neg (by decide)];by_cases e : a + b + c = 2
  · rw [if_pos e];simp only [e,decide_true,Bool.true_and];rfl
  · rw [if_neg e];simp [e]
instance instPtEq : DecidableEq Pt:=fun x y =>
  if h : x.f0 = y.f0∧x.f1 = y.f1∧x.f2 = y.f2 then .isTrue (by
    obtain ⟨a,b,c⟩:=x
    obtain ⟨d,e,f⟩:=y
    obtain ⟨h1,h2,h3⟩:=h
    simp only at h1 h2 h3
    subst h1 h2 h3
    rfl)
  else .isFalse (fun e=>h (by subst e;exact ⟨rfl,rfl,rfl⟩))
theorem points_at : ((List.range 9).all fun n=>n == 0 || (impl_points.f 120 (n : Int) == some (ptsFn n))) = true:=by decide +kernel
theorem pts_len : ((List.range 9).all fun n=>n == 0 || (ptsFn n).length == many n) = true:=by decide +kernel
theorem at_spec : ((List.range 9).all fun n=>n == 0 || (List.range 45).all fun i=>decide (many n ≤ i) || (spec_meAt.f 20 (n : Int) (i : Int) == some [(rdP (ptsFn n) i).f0,(rdP (ptsFn n) i).f1,(rdP (ptsFn n) i).f2])) = true:=by decide +kernel
theorem wn (j : Nat) (h : j < 1000000000) : wrap64 ((j : Int) + 1) = ((j + 1 : Nat) : Int):=by rw [wr (by omega) (by omega)];omega
/-- What the tables say of one side. -/
structure Side (n : Nat) : Prop where
  lo : 1 ≤ n
  hi : n ≤ 8
theorem Side.points {n : Nat} (h : Side n) : Ev (fun k=>impl_points.f k (n : Int)) (ptsFn n):=by
  have a:=List.all_eq_true.1 points_at n (by simp;have:=h.hi;omega);have z : (n == 0) = false:=by simp;have:=h.lo;omega
  rw [z,Bool.false_or] at a;exact Ev.of (fun k=>impl_points.mono _ k) (eq_of_beq a)
theorem many_le {n : Nat} (h : n ≤ 8) : many n ≤ 45:=by
  have : n = 0 ∨ n = 1 ∨ n = 2 ∨ n = 3 ∨ n = 4 ∨ n = 5 ∨ n = 6 ∨ n = 7 ∨ n = 8:=by omega
  rcases this with rfl|rfl|rfl|rfl|rfl|rfl|rfl|rfl|rfl <;> decide
theorem Side.len {n : Nat} (h : Side n) : (ptsFn n).length = many n:=by
  have a:=List.all_eq_true.1 pts_len n (by simp;have:=h.hi;omega);have z : (n == 0) = false:=by simp;have:=h.lo;omega
  rw [z,Bool.false_or] at a;exact eq_of_beq a
theorem Side.at_ {n : Nat} (h : Side n) {i : Nat} (hi : i < many n) : Ev (fun k=>spec_meAt.f k (n : Int) (i : Int)) [(rdP (ptsFn n) i).f0,(rdP (ptsFn n) i).f1,(rdP (ptsFn n) i).f2]:=by
  have a:=List.all_eq_true.1 at_spec n (by simp;have:=h.hi;omega);have z : (n == 0) = false:=by simp;have:=h.lo;omega
  rw [z,Bool.false_or] at a;have b:=List.all_eq_true.1 a i (by simp;have:=many_le h.hi;omega);have y : decide (many n ≤ i) = false:=by simp;omega
  rw [y,Bool.false_or] at b;exact Ev.of (fun k=>spec_meAt.mono _ _ k) (eq_of_beq b)
theorem small_pts : ((List.range 9).all fun n=>(ptsFn n).all fun p=>decide (0 ≤ p.f0) && decide (p.f0 ≤ 8) && decide (0 ≤ p.f1) && decide (p.f1 ≤ 8) && decide (0 ≤ p.f2) && decide (p.f2 ≤ 8)) = true:=by decide +kernel
theorem Side.inside {n : Nat} (h : Side n) {i : Nat} (hi : i < many n) : (0 ≤ (rdP (ptsFn n) i).f0∧(rdP (ptsFn n) i).f0 ≤ 8)∧(0 ≤ (rdP (ptsFn n) i).f1∧(rdP (ptsFn n) i).f1 ≤ 8)∧(0 ≤ (rdP (ptsFn n) i).f2∧(rdP (ptsFn n) i).f2 ≤ 8):=by
  have a:=List.all_eq_true.1 small_pts n (by simp;have:=h.hi;omega);have hl:=h.len
  have e : rdP (ptsFn n) i = (ptsFn n)[i]'(by omega):=by
    show (ptsFn n).getD (i : Int).toNat _ = _;rw [Int.toNat_natCast,List.getD_eq_getElem?_getD,List.getElem?_eq_getElem (by omega)];rfl
  have b:=List.all_eq_true.1 a _ (List.getElem_mem (l:=ptsFn n) (n:=i) (by omega));rw [← e] at b;simp only [Bool.and_eq_true,decide_eq_true_eq] at b;omega
theorem Side.small {n : Nat} (h : Side n) {i : Nat} (hi : i < many n) : Small (rdP (ptsFn n) i):=by
  have:=h.inside hi;unfold Small;omega
/-- Are points i and j neighbours? -/
def NB (n i j : Nat) : Bool:=nearFn (rdP (ptsFn n) i) (rdP (ptsFn n) j)
theorem Side.near {n : Nat} (h : Side n) {i j : Nat} (hi : i < many n) (hj : j < many n) :
    Ev (fun k=>impl_near.f k (rdP (ptsFn n) i).f0 (rdP (ptsFn n) i).f1 (rdP (ptsFn n) i).f2 (rdP (ptsFn n) j).f0 (rdP (ptsFn n) j).f1 (rdP (ptsFn n) j).f2) (NB n i j):=near_ev _ _ (h.small hi) (h.small hj)
theorem abs_ev (x : Int) (h : -100 ≤ x∧x ≤ 100) : spec_l1Abs.f x = some (mx x (-x)):=by
  have e : wrap64 (-x) = -x:=wr (by omega) (by omega);simp only [spec_l1Abs.f,e,spec_l1Most.f,mx];split <;> split <;> simp <;> omega
theorem mx_abs (x y : Int) : mx (x - y) (-(x - y)) = mx (x - y) (y - x):=by rw [show -(x - y) = y - x by omega]
theorem mx3 (a b c : Int) (ha : 0 ≤ a) (hb : 0 ≤ b) (hc : 0 ≤ c) (h : a + b + c = 2) : (mx (mx (mx 0 a) b) c = 1 ↔ a ≤ 1∧b ≤ 1∧c ≤ 1):=by
  unfold mx;split <;> split <;> split <;> omega
/-- The reference's neighbours are the same. -/
theorem Side.meNear {n : Nat} (h : Side n) {i j : Nat} (hi : i < many n) (hj : j < many n) : Ev (fun k=>spec_meNear.f k (n : Int) (i : Int) (j : Int)) (NB n i j):=by
  refine Ev.bind (h.at_ hi) ?_;refine Ev.bind (h.at_ hj) ?_;obtain ⟨h0,h1,h2⟩:=h.inside hi;obtain ⟨g0,g1,g2⟩:=h.inside hj;unfold NB nearFn;dsimp only;generalize (rdP (ptsFn n) i).f0 = x0 at *;generalize (rdP (ptsFn n) i).f1 = x1 at *;generalize (rdP (ptsFn n) i).f2 = x2 at *;generalize (rdP (ptsFn n) j).f0 = y0 at *;generalize (rdP (ptsFn n) j).f1 = y1 at *;generalize (rdP (ptsFn n) j).f2 = y2 at *;have m0:=mx_sub x0 y0 (by omega) (by omega);have m1:=mx_sub x1 y1 (by omega) (by omega);have m2:=mx_sub x2 y2 (by omega) (by omega);have e0 : spec_l1Abs.f (wrap64 (x0 - y0)) = some (mx (x0 - y0) (y0 - x0)):=by rw [wr (by omega) (by omega),abs_ev _ (by omega),mx_abs]
  have e1 : spec_l1Abs.f (wrap64 (x1 - y1)) = some (mx (x1 - y1) (y1 - x1)):=by rw [wr (by omega) (by omega),abs_ev _ (by omega),mx_abs]
  have e2 : spec_l1Abs.f (wrap64 (x2 - y2)) = some (mx (x2 - y2) (y2 - x2)):=by rw [wr (by omega) (by omega),abs_ev _ (by omega),mx_abs]
  generalize mx (x0 - y0) (y0 - x0) = a at *;generalize mx (x1 - y1) (y1 - x1) = b at *;generalize mx (x2 - y2) (y2 - x2) = c at *;have r0 : ∀ u v w : Int,rd [u,v,w] 0 = u:=fun _ _ _=>rfl
  have r1 : ∀ u v w : Int,rd [u,v,w] 1 = v:=fun _ _ _=>rfl
  have r2 : ∀ u v w : Int,rd [u,v,w] 2 = w:=fun _ _ _=>rfl
  have s0 : wrap64 (0 + a) = a:=(wr (by omega) (by omega)).trans (by omega);have s1 : wrap64 (a + b) = a + b:=wr (by omega) (by omega);have s2 : wrap64 (a + b + c) = a + b + c:=wr (by omega) (by omega);have sa : wrap64 a = a:=wr (by omega) (by omega);have k3:=mx3 a b c (by omega) (by omega) (by omega);by_cases c0 : a > 1
  · refine Ev.step (f:=fun _=>some false) (fun k=>by simp only [spec_meNear.l0,r0,e0];simp [c0]) (ev_eq (Ev.now _) ?_)
    by_cases hs : a + b + c = 2
    · have:=k3 hs
      simp only [hs,decide_true,Bool.true_and];exact (decide_eq_false (by omega)).symm
    · simp [hs]
  refine Ev.step (f:=fun k=>spec_meNear.l0 k [x0,x1,x2] [y0,y1,y2] a 3 1) (fun k=>by simp only [spec_meNear.l0,r0,e0];simp [c0,sa,u1]) ?_;by_cases c1 : b > 1
  · refine Ev.step (f:=fun _=>some false) (fun k=>by simp only [spec_meNear.l0,r1,e1];simp [c1]) (ev_eq (Ev.now _) ?_)
    by_cases hs : a + b + c = 2
    · have:=k3 hs
      simp only [hs,decide_true,Bool.true_and];exact (decide_eq_false (by omega)).symm
    · simp [hs]
  refine Ev.step (f:=fun k=>spec_meNear.l0 k [x0,x1,x2] [y0,y1,y2] (a + b) 3 2) (fun k=>by simp only [spec_meNear.l0,r1,e1];simp [c1,s1,u2]) ?_;by_cases c2 : c > 1
  · refine Ev.step (f:=fun _=>some false) (fun k=>by simp only [spec_meNear.l0,r2,e2];simp [c2]) (ev_eq (Ev.now _) ?_)
    by_cases hs : a + b + c = 2
    · have:=k3 hs
      simp only [hs,decide_true,Bool.true_and];exact (decide_eq_false (by omega)).symm
    · simp [hs]
  refine Ev.step (f:=fun k=>spec_meNear.l0 k [x0,x1,x2] [y0,y1,y2] (a + b + c) 3 3) (fun k=>by simp only [spec_meNear.l0,r2,e2];simp [c2,s2,u3]) ?_;refine Ev.step (f:=fun _=>some ((a + b + c) == 2)) (fun k=>by simp only [spec_meNear.l0];simp) (ev_eq (Ev.now _) ?_);by_cases hs : a + b + c = 2
  · have:=k3 hs
    simp only [hs,decide_true,Bool.true_and];exact (decide_eq_true (by omega)).symm
  · simp [hs]
/-- The cells, by three loops. -/
def c2 (N : Nat→Nat→Bool) (i j : Nat) : Nat→Nat→List (List Int)
  | 0,_=>[]
  | d + 1,k=>(if (N i j && N i k && N j k) = true then [[(i : Int),(j : Int),(k : Int)]] else []) ++ c2 N i j d (k + 1)
def c1 (N : Nat→Nat→Bool) (m i : Nat) : Nat→Nat→List (List Int)
  | 0,_=>[]
  | d + 1,j=>c2 N i j (m - (j + 1)) (j + 1) ++ c1 N m i d (j + 1)
def c0 (N : Nat→Nat→Bool) (m : Nat) : Nat→Nat→List (List Int)
  | 0,_=>[]
  | d + 1,i=>c1 N m i (m - (i + 1)) (i + 1) ++ c0 N m d (i + 1)
def cellsFn (n : Nat) : List (List Int):=c0 (NB n) (many n) (many n) 0
theorem c2_none {N : Nat→Nat→Bool} {i j : Nat} (h : N i j = false) : ∀ d k,c2 N i j d k = []
  | 0,_=>rfl
  | d + 1,k=>by simp [c2,h,c2_none h d (k + 1)]
theorem c2_len (N : Nat→Nat→Bool) (i j : Nat) : ∀ d k,(c2 N i j d k).length ≤ d
  | 0,_=>Nat.le_refl _
  | d + 1,k=>by
    have:=c2_len N i j d (k + 1)
    rw [c2,List.length_append]
    split <;> simp <;> omega
theorem c1_len (N : Nat→Nat→Bool) (m i : Nat) (hm : m ≤ 45) : ∀ d j,(c1 N m i d j).length ≤ d * 45
  | 0,_=>Nat.le_refl _
  | d + 1,j=>by
    have:=c1_len N m i hm d (j + 1)
    have:=c2_len N i j (m - (j + 1)) (j + 1)
    rw [c1,List.length_append]
    omega
theorem pts_lenI {n m : Nat} (h : Side n) (hm : many n = m) : ((ptsFn n).length : Int) = (m : Int):=by rw [h.len,hm]
section
variable {n m : Nat} (h : Side n) (hm : many n = m)
include h hm
theorem impl_l2 (i j : Nat) (hij : i < j) (hj : j < m) (r : List (List Int)) : ∀ (d k : Nat) (out : List (List Int)),k + d = m→j < k→out.length ≤ i * 2025 + j * 45 + k →
    Ev (fun f=>impl_cells.l1 f (out ++ c2 (NB n) i j d k) (ptsFn n) i ((j + 1 : Nat) : Int) (ptsFn n) m i (rdP (ptsFn n) i).f0 (rdP (ptsFn n) i).f1 (rdP (ptsFn n) i).f2) r →
    Ev (fun f=>impl_cells.l2 f out (ptsFn n) i j k (ptsFn n) m i (rdP (ptsFn n) i).f0 (rdP (ptsFn n) i).f1 (rdP (ptsFn n) i).f2) r:=by
  have hl:=pts_lenI h hm;have hm45:=many_le h.hi;rw [hm] at hm45;intro d;induction d with
  | zero =>
    intro k out hk hjk hb e;rw [c2,List.append_nil] at e;refine Ev.step (fun f=>impl_cells.l2.eq_2 ..) ?_;rw [hl];refine ev_neg (by omega) ?_;refine Ev.step (fun f=>impl_cells.j3.eq_2 ..) ?_;refine ev_neg (by decide) ?_;rw [wn j (by omega)];exact e
  | succ d ih =>
    intro k out hk hjk hb e;refine Ev.step (fun f=>impl_cells.l2.eq_2 ..) ?_;rw [hl];refine ev_pos (by omega) (ev_pos (by omega) (ev_pos (by omega) ?_));refine Ev.bind (h.near (i:=i) (j:=j) (by omega) (by omega)) ?_;refine Ev.step (fun f=>impl_cells.j3.eq_2 ..) ?_;cases hN : NB n i j with
    | false =>
      rw [c2_none hN,List.append_nil] at e;refine ev_neg (by decide) ?_;rw [wn j (by omega)];exact e
    | true =>
      rw [hl];refine ev_pos rfl (ev_pos (by omega) (ev_pos (by omega) ?_));refine Ev.bind (h.near (i:=i) (j:=k) (by omega) (by omega)) ?_;rw [c2,hN,Bool.true_and] at e;cases hK : NB n i k with
      | false =>
        rw [hK,Bool.false_and,if_neg (by decide),List.nil_append] at e;refine ev_neg (by decide) ?_;rw [wn k (by omega)];exact ih (k + 1) out (by omega) (by omega) (by omega) e
      | true =>
        refine ev_pos rfl (ev_pos (by omega) (ev_pos (by omega) ?_));refine Ev.bind (h.near (i:=j) (j:=k) (by omega) (by omega)) ?_;rw [hK,Bool.true_and] at e;cases hJ : NB n j k with
        | false =>
          rw [hJ,if_neg (by decide),List.nil_append] at e;refine ev_neg (by decide) ?_;rw [wn k (by omega)];exact ih (k + 1) out (by omega) (by omega) (by omega) e
        | true =>
          rw [hJ,if_pos rfl,← List.append_assoc] at e;refine ev_pos rfl (ev_pos (by omega) ?_);rw [wn k (by omega)];exact ih (k + 1) _ (by omega) (by omega) (by rw [List.length_append];simp;omega) e
theorem impl_l1 (i : Nat) (hi : i < m) (r : List (List Int)) : ∀ (d j : Nat) (out : List (List Int)),j + d = m→i < j→out.length ≤ i * 2025 + j * 45 →
    Ev (fun f=>impl_cells.l0 f (out ++ c1 (NB n) m i d j) (ptsFn n) (ptsFn n) m ((i + 1 : Nat) : Int)) r →
    Ev (fun f=>impl_cells.l1 f out (ptsFn n) i j (ptsFn n) m i (rdP (ptsFn n) i).f0 (rdP (ptsFn n) i).f1 (rdP (ptsFn n) i).f2) r:=by
  have hl:=pts_lenI h hm;have hm45:=many_le h.hi;rw [hm] at hm45;intro d;induction d with
  | zero =>
    intro j out hj hij hb e;rw [c1,List.append_nil] at e;refine Ev.step (fun f=>impl_cells.l1.eq_2 ..) ?_;rw [hl];refine ev_neg (by omega) ?_;rw [wn i (by omega)];exact e
  | succ d ih =>
    intro j out hj hij hb e;refine Ev.step (fun f=>impl_cells.l1.eq_2 ..) ?_;rw [hl];refine ev_pos (by omega) ?_;rw [wn j (by omega)];rw [c1,← List.append_assoc] at e;have hc:=c2_len (NB n) i j (m - (j + 1)) (j + 1);exact impl_l2 h hm i j hij (by omega) r (m - (j + 1)) (j + 1) out (by omega) (by omega) (by omega) (ih (j + 1) _ (by omega) (by omega) (by rw [List.length_append];omega) e)
theorem impl_l0 (r : List (List Int)) : ∀ (d i : Nat) (out : List (List Int)),i + d = m→out.length ≤ i * 2025 →
    r = out ++ c0 (NB n) m d i→Ev (fun f=>impl_cells.l0 f out (ptsFn n) (ptsFn n) m i) r:=by
  have hl:=pts_lenI h hm;have hm45:=many_le h.hi;rw [hm] at hm45;intro d;induction d with
  | zero =>
    intro i out hi hb e;rw [c0,List.append_nil] at e;refine Ev.step (fun f=>impl_cells.l0.eq_2 ..) ?_;refine ev_neg (by omega) (ev_eq (Ev.now _) e.symm)
  | succ d ih =>
    intro i out hi hb e;refine Ev.step (fun f=>impl_cells.l0.eq_2 ..) ?_;rw [hl];refine ev_pos (by omega) (ev_pos (by omega) (ev_pos (by omega) ?_));rw [wn i (by omega)];rw [c0,← List.append_assoc] at e;have hc:=c1_len (NB n) m i hm45 (m - (i + 1)) (i + 1);exact impl_l1 h hm i (by omega) r (m - (i + 1)) (i + 1) out (by omega) (by omega) (by omega) (ih (i + 1) _ (by omega) (by rw [List.length_append];omega) e)
theorem count_ev : spec_meCount.f (n : Int) = some (m : Int):=by
  have : n = 1 ∨ n = 2 ∨ n = 3 ∨ n = 4 ∨ n = 5 ∨ n = 6 ∨ n = 7 ∨ n = 8:=by have:=h.lo;have:=h.hi;omega
  subst hm;rcases this with rfl|rfl|rfl|rfl|rfl|rfl|rfl|rfl <;> decide +kernel
theorem spec_l2 (i j : Nat) (hij : i < j) (hj : j < m) (r : List (List Int)) : ∀ (d k : Nat) (out : List (List Int)),k + d = m→j < k→out.length ≤ i * 2025 + j * 45 + k →
    Ev (fun f=>spec_meCells.l1 f n (out ++ c2 (NB n) i j d k) i ((j + 1 : Nat) : Int)) r →
    Ev (fun f=>spec_meCells.l2 f n out i j k) r:=by
  have hm45:=many_le h.hi;rw [hm] at hm45;intro d;induction d with
  | zero =>
    intro k out hk hjk hb e;rw [c2,List.append_nil] at e;refine Ev.step (fun f=>spec_meCells.l2.eq_2 ..) ?_;refine ev_bind0 (count_ev h hm) ?_;refine ev_neg (by omega) ?_;rw [wn j (by omega)];exact e
  | succ d ih =>
    intro k out hk hjk hb e;refine Ev.step (fun f=>spec_meCells.l2.eq_2 ..) ?_;refine ev_bind0 (count_ev h hm) ?_;refine ev_pos (by omega) ?_;refine Ev.bind (h.meNear (i:=i) (j:=j) (by omega) (by omega)) ?_;rw [wn k (by omega)];cases hN : NB n i j with
    | false =>
      rw [c2,hN,Bool.false_and,Bool.false_and,if_neg (by decide),List.nil_append] at e;exact ev_neg (by decide) (ih (k + 1) out (by omega) (by omega) (by omega) e)
    | true =>
      refine ev_pos rfl ?_;refine Ev.bind (h.meNear (i:=i) (j:=k) (by omega) (by omega)) ?_;rw [c2,hN,Bool.true_and] at e;cases hK : NB n i k with
      | false =>
        rw [hK,Bool.false_and,if_neg (by decide),List.nil_append] at e;exact ev_neg (by decide) (ih (k + 1) out (by omega) (by omega) (by omega) e)
      | true =>
        refine ev_pos rfl ?_;refine Ev.bind (h.meNear (i:=j) (j:=k) (by omega) (by omega)) ?_;rw [hK,Bool.true_and] at e;cases hJ : NB n j k with
        | false =>
          rw [hJ,if_neg (by decide),List.nil_append] at e;exact ev_neg (by decide) (ih (k + 1) out (by omega) (by omega) (by omega) e)
        | true =>
          rw [hJ,if_pos rfl,← List.append_assoc] at e;exact ev_pos rfl (ev_pos (by omega) (ih (k + 1) _ (by omega) (by omega) (by rw [List.length_append];simp;omega) e))
theorem spec_l1 (i : Nat) (hi : i < m) (r : List (List Int)) : ∀ (d j : Nat) (out : List (List Int)),j + d = m→i < j→out.length ≤ i * 2025 + j * 45 →
    Ev (fun f=>spec_meCells.l0 f n (out ++ c1 (NB n) m i d j) ((i + 1 : Nat) : Int)) r →
    Ev (fun f=>spec_meCells.l1 f n out i j) r:=by
  have hm45:=many_le h.hi;rw [hm] at hm45;intro d;induction d with
  | zero =>
    intro j out hj hij hb e;rw [c1,List.append_nil] at e;refine Ev.step (fun f=>spec_meCells.l1.eq_2 ..) ?_;refine ev_bind0 (count_ev h hm) ?_;refine ev_neg (by omega) ?_;rw [wn i (by omega)];exact e
  | succ d ih =>
    intro j out hj hij hb e;refine Ev.step (fun f=>spec_meCells.l1.eq_2 ..) ?_;refine ev_bind0 (count_ev h hm) ?_;refine ev_pos (by omega) ?_;rw [wn j (by omega)];rw [c1,← List.append_assoc] at e;have hc:=c2_len (NB n) i j (m - (j + 1)) (j + 1);exact spec_l2 h hm i j hij (by omega) r (m - (j + 1)) (j + 1) out (by omega) (by omega) (by omega) (ih (j + 1) _ (by omega) (by omega) (by rw [List.length_append];omega) e)
theorem spec_l0 (r : List (List Int)) : ∀ (d i : Nat) (out : List (List Int)),i + d = m→out.length ≤ i * 2025 →
    r = out ++ c0 (NB n) m d i→Ev (fun f=>spec_meCells.l0 f n out i) r:=by
  have hm45:=many_le h.hi;rw [hm] at hm45;intro d;induction d with
  | zero =>
    intro i out hi hb e;rw [c0,List.append_nil] at e;refine Ev.step (fun f=>spec_meCells.l0.eq_2 ..) ?_;refine ev_bind0 (count_ev h hm) ?_;exact ev_neg (by omega) (ev_eq (Ev.now _) e.symm)
  | succ d ih =>
    intro i out hi hb e;refine Ev.step (fun f=>spec_meCells.l0.eq_2 ..) ?_;refine ev_bind0 (count_ev h hm) ?_;refine ev_pos (by omega) ?_;rw [wn i (by omega)];rw [c0,← List.append_assoc] at e;have hc:=c1_len (NB n) m i hm45 (m - (i + 1)) (i + 1);exact spec_l1 h hm i (by omega) r (m - (i + 1)) (i + 1) out (by omega) (by omega) (by omega) (ih (i + 1) _ (by omega) (by rw [List.length_append];omega) e)
end
theorem Side.cells {n : Nat} (h : Side n) : Ev (fun k=>impl_cells.f k (n : Int)) (cellsFn n):=by
  refine Ev.bind h.points ?_;rw [pts_lenI h rfl];exact impl_l0 h rfl _ (many n) 0 [] (by omega) (Nat.le_refl _) rfl
theorem Side.meCells {n : Nat} (h : Side n) : Ev (fun k=>spec_meCells.f k (n : Int)) (cellsFn n) :=
  spec_l0 h rfl _ (many n) 0 [] (by omega) (Nat.le_refl _) rfl
theorem c0_len (N : Nat→Nat→Bool) (m : Nat) (hm : m ≤ 45) : ∀ d i,(c0 N m d i).length ≤ d * 2025
  | 0,_=>Nat.le_refl _
  | d + 1,i=>by
    have:=c0_len N m hm d (i + 1)
    have:=c1_len N m i hm (m - (i + 1)) (i + 1)
    rw [c0,List.length_append]
    omega
theorem Side.cells_len {n : Nat} (h : Side n) : (cellsFn n).length ≤ 91125:=by
  have:=many_le h.hi;have:=c0_len (NB n) (many n) this (many n) 0;unfold cellsFn;omega
theorem c2_each (N : Nat→Nat→Bool) (i j : Nat) : ∀ d k,∀ c ∈ c2 N i j d k,c.length = 3
  | 0,_,c,h=>by simp [c2] at h
  | d + 1,k,c,h=>by
    rw [c2,List.mem_append] at h
    rcases h with h|h
    · split at h
      · simp at h;subst h;rfl
      · simp at h
    · exact c2_each N i j d (k + 1) c h
theorem c1_each (N : Nat→Nat→Bool) (m i : Nat) : ∀ d j,∀ c ∈ c1 N m i d j,c.length = 3
  | 0,_,c,h=>by simp [c1] at h
  | d + 1,j,c,h=>by
    rw [c1,List.mem_append] at h
    rcases h with h|h
    · exact c2_each _ _ _ _ _ c h
    · exact c1_each N m i d (j + 1) c h
theorem c0_each (N : Nat→Nat→Bool) (m : Nat) : ∀ d i,∀ c ∈ c0 N m d i,c.length = 3
  | 0,_,c,h=>by simp [c0] at h
  | d + 1,i,c,h=>by
    rw [c0,List.mem_append] at h
    rcases h with h|h
    · exact c1_each _ _ _ _ _ c h
    · exact c0_each N m d (i + 1) c h
theorem cells_each (n : Nat) : ∀ c ∈ cellsFn n,c.length = 3:=c0_each _ _ _ _
end Go.Proofs.Ytcecimigkndakab.QFnExactFairCut
/-! Which cells have two points: the program's loop and the reference's tell the same. -/
namespace Go.Proofs.Ytcecimigkndakab.QFnExactFairCut
open Go.RowKit Go.Proofs.Ytcecimigkndakab.PFnExactFairCut Go.Proofs.YtcecimigkndakabW.PrintWords Go.Proofs.YtcecimigkndakabW.PrintLast Go.Proofs.YtcecimigkndakabW.PrintMore
set_option linter.unusedVariables false
set_option linter.unusedSimpArgs false
set_option linter.unusedSectionVars false
set_option maxRecDepth 100000
theorem rd_mem {l : List Int} {i : Nat} (h : i < l.length) : rd l (i : Int) = l[i]:=by
  show l.getD (i : Int).toNat 0 = _;rw [Int.toNat_natCast,List.getD_eq_getElem?_getD,List.getElem?_eq_getElem h];rfl
/-- slices.Contains, slices.Index. -/
theorem index_l0 (l : List Int) (x : Int) (hl : l.length < 1000000000) : ∀ (d i : Nat),i + d = l.length →
    ∃ r : Int,Ev (fun k=>slices_Index_int_int.l0 k l x (l.length : Int) i) r∧(0 ≤ r ↔ x ∈ l.drop i):=by
  intro d;induction d with
  | zero =>
    intro i hi;refine ⟨-1,Ev.step (fun f=>slices_Index_int_int.l0.eq_2 ..) (ev_neg (by omega) (Ev.now _)),?_⟩;rw [List.drop_eq_nil_of_le (by omega)];simp
  | succ d ih =>
    intro i hi;obtain ⟨r,e,hr⟩:=ih (i + 1) (by omega);have hlt : i < l.length:=by omega
    rw [List.drop_eq_getElem_cons hlt];by_cases hx : x = l[i]
    · exact ⟨i,Ev.step (fun f=>slices_Index_int_int.l0.eq_2 ..) (ev_pos (by omega) (ev_pos (by omega) (ev_pos (by omega) (ev_pos (by rw [rd_mem hlt];exact hx) (Ev.now _))))),⟨fun _=>by rw [List.mem_cons];exact .inl hx,fun _=>by omega⟩⟩
    · refine ⟨r,Ev.step (fun f=>slices_Index_int_int.l0.eq_2 ..) (ev_pos (by omega) (ev_pos (by omega) (ev_pos (by omega) (ev_neg (by rw [rd_mem hlt];exact hx) ?_)))),by rw [List.mem_cons,hr];exact ⟨.inr,fun z=>z.resolve_left hx⟩⟩
      rw [wn i (by omega)];exact e
theorem contains_ev (l : List Int) (x : Int) (hl : l.length < 1000000000) : Ev (fun k=>slices_Contains_int_int.f k l x) (decide (x ∈ l)):=by
  obtain ⟨r,e,hr⟩:=index_l0 l x hl l.length 0 (by omega);refine Ev.bind (g:=fun k=>slices_Index_int_int.f k l x) e ?_;refine ev_eq (Ev.now _) ?_;rw [List.drop_zero] at hr;exact decide_eq_decide.2 hr
theorem has_l0 (l : List Int) (x : Int) (hl : l.length < 1000000000) : ∀ (d i : Nat),i + d = l.length →
    Ev (fun k=>spec_l1Has.l0 k x l (l.length : Int) i) (decide (x ∈ l.drop i)):=by
  intro d;induction d with
  | zero =>
    intro i hi;refine Ev.step (fun f=>spec_l1Has.l0.eq_2 ..) (ev_neg (by omega) (ev_eq (Ev.now _) ?_));rw [List.drop_eq_nil_of_le (by omega)];simp
  | succ d ih =>
    intro i hi;have hlt : i < l.length:=by omega
    rw [List.drop_eq_getElem_cons hlt];by_cases hx : l[i] = x
    · exact Ev.step (fun f=>spec_l1Has.l0.eq_2 ..) (ev_pos (by omega) (ev_pos (by omega) (ev_pos (by omega) (ev_pos (by rw [rd_mem hlt];exact hx) (ev_eq (Ev.now _) (decide_eq_true (by rw [List.mem_cons];exact .inl hx.symm)).symm)))))
    · refine Ev.step (fun f=>spec_l1Has.l0.eq_2 ..) (ev_pos (by omega) (ev_pos (by omega) (ev_pos (by omega) (ev_neg (by rw [rd_mem hlt];exact hx) ?_))))
      rw [wn i (by omega)];exact ev_eq (ih (i + 1) (by omega)) (decide_eq_decide.2 (by rw [List.mem_cons];exact ⟨.inr,fun z=>z.resolve_left (fun h=>hx h.symm)⟩))
theorem has_ev (l : List Int) (x : Int) (hl : l.length < 1000000000) : Ev (fun k=>spec_l1Has.f k l x) (decide (x ∈ l)):=has_l0 l x hl l.length 0 (by omega)
/-- The numbers of the cells with two points. -/
def withFn (cells : List (List Int)) (x y : Int) : Nat→Nat→List Int
  | 0,_=>[]
  | d + 1,i=>(if x ∈ cells.getD i []∧y ∈ cells.getD i [] then [(i : Int)] else []) ++ withFn cells x y d (i + 1)
theorem withFn_len (cells : List (List Int)) (x y : Int) : ∀ d i,(withFn cells x y d i).length ≤ d
  | 0,_=>Nat.le_refl _
  | d + 1,i=>by
    have:=withFn_len cells x y d (i + 1)
    rw [withFn,List.length_append]
    split <;> simp <;> omega
section
variable (cells : List (List Int)) (x y : Int) (hl : cells.length < 1000000) (he : ∀ c ∈ cells,c.length = 3)
include hl he
theorem each_ (i : Nat) (h : i < cells.length) : (rd_L1 cells (i : Int)).length < 1000000000:=by
  show (cells.getD (i : Int).toNat []).length < _;rw [Int.toNat_natCast,List.getD_eq_getElem?_getD,List.getElem?_eq_getElem h];have:=he _ (List.getElem_mem (l:=cells) (n:=i) h);simp only [Option.getD_some];omega
theorem with_l0 (r : List Int) : ∀ (d i : Nat) (out : List Int),i + d = cells.length→out.length ≤ i→r = out ++ withFn cells x y d i →
    Ev (fun k=>impl_with.l0 k x y out cells (cells.length : Int) i) r:=by
  intro d;induction d with
  | zero =>
    intro i out hi hb e;rw [withFn,List.append_nil] at e;exact Ev.step (fun f=>impl_with.l0.eq_2 ..) (ev_neg (by omega) (ev_eq (Ev.now _) e.symm))
  | succ d ih =>
    intro i out hi hb e;have hz:=each_ cells hl he i (by omega);refine Ev.step (fun f=>impl_with.l0.eq_2 ..) (ev_pos (by omega) (ev_pos (by omega) (ev_pos (by omega) ?_)));rw [withFn] at e;refine Ev.bind (contains_ev _ x hz) ?_;rw [wn i (by omega)];by_cases hx : x ∈ cells.getD i []
    · refine ev_pos (decide_eq_true hx) ?_
      refine Ev.bind (contains_ev _ y hz) ?_;by_cases hy : y ∈ cells.getD i []
      · rw [if_pos ⟨hx,hy⟩,← List.append_assoc] at e
        exact ev_pos (decide_eq_true hy) (ev_pos (by omega) (ih (i + 1) _ (by omega) (by rw [List.length_append];simp;omega) e))
      · rw [if_neg (fun z=>hy z.2),List.nil_append] at e
        exact ev_neg (fun z=>hy (of_decide_eq_true z)) (ih (i + 1) _ (by omega) (by omega) e)
    · rw [if_neg (fun z=>hx z.1),List.nil_append] at e
      exact ev_neg (fun z=>hx (of_decide_eq_true z)) (ih (i + 1) _ (by omega) (by omega) e)
theorem meWith_l0 (r : List Int) : ∀ (d i : Nat) (out : List Int),i + d = cells.length→out.length ≤ i→r = out ++ withFn cells x y d i →
    Ev (fun k=>spec_meWith.l0 k x y out cells (cells.length : Int) i) r:=by
  intro d;induction d with
  | zero =>
    intro i out hi hb e;rw [withFn,List.append_nil] at e;exact Ev.step (fun f=>spec_meWith.l0.eq_2 ..) (ev_neg (by omega) (ev_eq (Ev.now _) e.symm))
  | succ d ih =>
    intro i out hi hb e;have hz:=each_ cells hl he i (by omega);refine Ev.step (fun f=>spec_meWith.l0.eq_2 ..) (ev_pos (by omega) (ev_pos (by omega) (ev_pos (by omega) ?_)));rw [withFn] at e;refine Ev.bind (has_ev _ x hz) ?_;rw [wn i (by omega)];by_cases hx : x ∈ cells.getD i []
    · refine ev_pos (decide_eq_true hx) ?_
      refine Ev.bind (has_ev _ y hz) ?_;by_cases hy : y ∈ cells.getD i []
      · rw [if_pos ⟨hx,hy⟩,← List.append_assoc] at e
        exact ev_pos (decide_eq_true hy) (ev_pos (by omega) (ih (i + 1) _ (by omega) (by rw [List.length_append];simp;omega) e))
      · rw [if_neg (fun z=>hy z.2),List.nil_append] at e
        exact ev_neg (fun z=>hy (of_decide_eq_true z)) (ih (i + 1) _ (by omega) (by omega) e)
    · rw [if_neg (fun z=>hx z.1),List.nil_append] at e
      exact ev_neg (fun z=>hx (of_decide_eq_true z)) (ih (i + 1) _ (by omega) (by omega) e)
theorem with_ev : Ev (fun k=>impl_with.f k cells x y) (withFn cells x y cells.length 0):=with_l0 cells x y hl he _ cells.length 0 [] (by omega) (Nat.le_refl _) rfl
theorem meWith_ev : Ev (fun k=>spec_meWith.f k cells x y) (withFn cells x y cells.length 0):=meWith_l0 cells x y hl he _ cells.length 0 [] (by omega) (Nat.le_refl _) rfl
end
end Go.Proofs.Ytcecimigkndakab.QFnExactFairCut
/-! Labels of triangles: the program's test and the reference's. -/
namespace Go.Proofs.Ytcecimigkndakab.QFnExactFairCut
open Go.RowKit Go.Proofs.Ytcecimigkndakab.PFnExactFairCut Go.Proofs.YtcecimigkndakabW.PrintWords Go.Proofs.YtcecimigkndakabW.PrintLast Go.Proofs.YtcecimigkndakabW.PrintMore
set_option linter.unusedVariables false
set_option linter.unusedSimpArgs false
set_option maxRecDepth 100000
theorem in_spec (a b c : Int) : spec_l1In.f a b c = some (decide (b ≤ a∧a ≤ c)):=by
  unfold spec_l1In.f;by_cases h : a ≥ b
  · rw [if_pos h];simp [show b ≤ a from h]
  · rw [if_neg h];simp [show ¬ b ≤ a from h]
theorem in_impl (a b c : Int) : impl_in.f a b c = some (decide (b ≤ a∧a ≤ c)):=by
  unfold impl_in.f;by_cases h : b ≤ a
  · rw [if_pos h];simp [h]
  · rw [if_neg h];simp [h]
theorem side_spec (a : Int) : spec_meSide.f a = some (decide (1 ≤ a∧a ≤ 8)):=by
  unfold spec_meSide.f;rw [in_spec];rfl
theorem side_impl (a : Int) : impl_isSide.f a = some (decide (1 ≤ a∧a ≤ 8)):=by
  unfold impl_isSide.f;rw [in_impl];rfl
theorem rd_at {l : List Int} {i : Nat} (h : i < l.length) : rd l (i : Int) = l[i]:=by rw [rd_nat,List.getD_eq_getElem?_getD,List.getElem?_eq_getElem h];rfl
/-- All numbers are from 0 to 2. -/
def okB (l : List Int) : Bool:=l.all (fun x=>decide (0 ≤ x∧x ≤ 2))
theorem all_loop (l : List Int) (hl : l.length ≤ 1048576) : ∀ d i : Nat,i + d = l.length→Ev (fun k=>spec_l1All.l0 k 0 2 l (l.length : Int) (i : Int)) (okB (l.drop i))
  | 0,i,h=>Ev.step (fun f=>spec_l1All.l0.eq_2 ..) (ev_neg (by omega) (ev_eq (Ev.now _) (by rw [List.drop_eq_nil_of_le (by omega)];rfl)))
  | d + 1,i,h=>by
    have hlt : i < l.length:=by omega
    refine Ev.step (fun f=>spec_l1All.l0.eq_2 ..) (ev_pos (by omega) (ev_pos (by omega) (ev_pos (by omega) (ev_bind0 (in_spec _ _ _) ?_))))
    unfold okB
    rw [List.drop_eq_getElem_cons hlt,List.all_cons,rd_at hlt,wr (show -9223372036854775808 ≤ (i : Int) + 1 by omega) (by omega)]
    by_cases hc : 0 ≤ l[i]∧l[i] ≤ 2
    · rw [decide_eq_true hc,Bool.true_and]
      exact ev_pos rfl (all_loop l hl d (i + 1) (by omega))
    · rw [decide_eq_false hc,Bool.false_and]
      exact ev_neg (by decide) (Ev.now _)
theorem bad_one (x : Int) : impl_areLabels_1.f x = some (!decide (0 ≤ x∧x ≤ 2)):=by
  unfold impl_areLabels_1.f;rw [in_impl];rfl
theorem bad_loop (l : List Int) (hl : l.length ≤ 1048576) : ∀ d i : Nat,i + d = l.length→∃ r : Int,Ev (fun k=>slices_IndexFunc_int_int__impl_areLabels_1.l0 k l (l.length : Int) (i : Int)) r∧decide (r ≥ 0) = !okB (l.drop i)
  | 0,i,h=>⟨-1,Ev.step (fun f=>slices_IndexFunc_int_int__impl_areLabels_1.l0.eq_2 ..) (ev_neg (by omega) (Ev.now _)),by rw [List.drop_eq_nil_of_le (by omega)];rfl⟩
  | d + 1,i,h=>by
    have hlt : i < l.length:=by omega
    by_cases hc : 0 ≤ l[i]∧l[i] ≤ 2
    · obtain ⟨r,h1,h2⟩:=bad_loop l hl d (i + 1) (by omega)
      refine ⟨r,Ev.step (fun f=>slices_IndexFunc_int_int__impl_areLabels_1.l0.eq_2 ..) (ev_pos (by omega) (ev_pos (by omega) (ev_pos (by omega) (ev_bind0 (bad_one _) (ev_neg (by rw [rd_at hlt,decide_eq_true hc];decide) ?_))))),?_⟩
      · rw [wr (by omega) (by omega)];exact h1
      · rw [h2]
        unfold okB
        rw [List.drop_eq_getElem_cons hlt,List.all_cons,decide_eq_true hc,Bool.true_and]
    · refine ⟨i,Ev.step (fun f=>slices_IndexFunc_int_int__impl_areLabels_1.l0.eq_2 ..) (ev_pos (by omega) (ev_pos (by omega) (ev_pos (by omega) (ev_bind0 (bad_one _) (ev_pos (by rw [rd_at hlt,decide_eq_false hc];rfl) (Ev.now _)))))),?_⟩
      unfold okB
      rw [List.drop_eq_getElem_cons hlt,List.all_cons,decide_eq_false hc,Bool.false_and,decide_eq_true (by omega)]
      rfl
theorem bad_ev (l : List Int) (hl : l.length ≤ 1048576) : Ev (fun k=>slices_ContainsFunc_int_int__impl_areLabels_1.f k l) (!okB l):=by
  obtain ⟨r,h1,h2⟩:=bad_loop l hl l.length 0 (by omega);rw [List.drop_zero] at h2;exact Ev.bind h1 (ev_eq (Ev.now _) h2)
def cnt (a : Int) : Int:=wrap64 (Int.tdiv (wrap64 ((wrap64 (a + 1)) * (wrap64 (a + 2)))) 2)
/-- Are these labels for a side? -/
def labB (a : Int) (l : List Int) : Bool:=decide (1 ≤ a∧a ≤ 8) && (decide ((l.length : Int) = cnt a) && okB l)
theorem labels_spec (a : Int) (l : List Int) (hl : l.length ≤ 1048576) : Ev (fun k=>spec_meLabels.f k a l) (labB a l):=by
  refine ev_bind0 (side_spec a) ?_;unfold labB;by_cases h : 1 ≤ a∧a ≤ 8
  · rw [decide_eq_true h]
    refine ev_pos rfl (ev_bind0 (show spec_meCount.f a = some (cnt a) from rfl) ?_);by_cases h2 : (l.length : Int) = cnt a
    · have ha:=all_loop l hl l.length 0 (by omega)
      rw [List.drop_zero] at ha;rw [decide_eq_true h2];exact ev_pos h2 (Ev.bind ha (Ev.now _))
    · rw [decide_eq_false h2]
      exact ev_neg h2 (Ev.now _)
  · rw [decide_eq_false h]
    exact ev_neg (by decide) (Ev.now _)
theorem labels_impl (a : Int) (l : List Int) (hl : l.length ≤ 1048576) : Ev (fun k=>impl_areLabels.f k a l) (labB a l):=by
  refine ev_bind0 (side_impl a) ?_;unfold labB;by_cases h : 1 ≤ a∧a ≤ 8
  · rw [decide_eq_true h]
    refine ev_pos rfl (ev_bind0 (show impl_many.f a = some (cnt a) from rfl) ?_);by_cases h2 : (l.length : Int) = cnt a
    · rw [decide_eq_true h2]
      exact ev_pos h2 (Ev.bind (bad_ev l hl) (ev_eq (Ev.now _) (by cases okB l <;> rfl)))
    · rw [decide_eq_false h2]
      exact ev_neg h2 (Ev.now _)
  · rw [decide_eq_false h]
    exact ev_neg (by decide) (Ev.now _)
end Go.Proofs.Ytcecimigkndakab.QFnExactFairCut
/-! Walks through doors: a walk enters no room twice. -/
set_option linter.unusedVariables false
namespace Go.Proofs.Ytcecimigkndakab.QFnExactFairCut.Path
theorem len_le {α : Type} [DecidableEq α] : ∀ (A B : List α),A.Nodup→(∀ x ∈ A,x ∈ B)→A.length ≤ B.length
  | [],_,_,_=>Nat.zero_le _
  | x :: r,B,hn,h=>by
    obtain ⟨hx,hr⟩:=List.nodup_cons.1 hn
    have hB:=h x List.mem_cons_self
    have:=len_le r (B.erase x) hr (fun y hy=>(List.mem_erase_of_ne (fun e=>hx (by rw [← e];exact hy))).2 (h y (List.mem_cons_of_mem _ hy)))
    have h2:=List.length_erase_of_mem hB
    have h3:=List.length_pos_of_mem hB
    rw [List.length_cons]
    omega
def inC (N : Nat) (c : Int) : Prop:=0 ≤ c∧c < (N : Int)
/-- Rooms and doors: a room that is not full has a door and just one other one; behind a door lies another room, or nothing. -/
structure House (bey : Int→List Int→Int) (oth : Int→List Int→List Int) (full : Int→Bool) (door : Int→List Int→Prop) (N : Nat) : Prop where
  other : ∀ c d,inC N c→full c = false→door c d→door c (oth c d)∧oth c d≠d∧∀ e,door c e→e = d ∨ e = oth c d
  beyond : ∀ c d,inC N c→door c d→bey c d = -1 ∨ (inC N (bey c d)∧bey c d≠c∧door (bey c d) d∧bey (bey c d) d = c)
section
variable (bey : Int→List Int→Int) (oth : Int→List Int→List Int)
/-- The rooms and the doors of a walk. -/
def sq (c0 : Int) (d0 : List Int) : Nat→Int × List Int
  | 0=>(c0,d0)
  | k + 1=>(bey (sq c0 d0 k).1 (oth (sq c0 d0 k).1 (sq c0 d0 k).2),oth (sq c0 d0 k).1 (sq c0 d0 k).2)
variable {bey oth} {full : Int→Bool} {door : Int→List Int→Prop} {N : Nat} (h : House bey oth full door N)
/-- Where a walk begins: out of nothing, or out of a full room. -/
structure Begin (bey : Int→List Int→Int) (full : Int→Bool) (door : Int→List Int→Prop) (N : Nat) (c0 : Int) (d0 : List Int) : Prop where
  door : 0 ≤ c0→inC N c0∧door c0 d0
  back : 0 ≤ c0→bey c0 d0 = -1 ∨ full (bey c0 d0) = true
include h
theorem alive {c0 : Int} {d0 : List Int} (b : Begin bey full door N c0 d0) : ∀ k,(∀ i,i ≤ k→0 ≤ (sq bey oth c0 d0 i).1)→(∀ i,i < k→full (sq bey oth c0 d0 i).1 = false) →
    (∀ i,i ≤ k→inC N (sq bey oth c0 d0 i).1∧door (sq bey oth c0 d0 i).1 (sq bey oth c0 d0 i).2)∧∀ i j,i < j→j ≤ k→(sq bey oth c0 d0 i).1≠(sq bey oth c0 d0 j).1
  | 0,h1,_=>⟨fun i hi=>by
      have : i = 0:=by omega
      subst this
      exact b.door (h1 0 (Nat.le_refl _)),fun i j h2 h3=>by omega⟩
  | k + 1,h1,h2=>by
    obtain ⟨g1,g2⟩:=alive b k (fun i hi=>h1 i (by omega)) (fun i hi=>h2 i (by omega))
    have hf:=h2 k (Nat.lt_succ_self k)
    obtain ⟨gk1,gk2⟩:=g1 k (Nat.le_refl _)
    obtain ⟨o1,o2,o3⟩:=h.other _ _ gk1 hf gk2
    have hp:=h1 (k + 1) (Nat.le_refl _)
    have hb:=h.beyond _ _ gk1 o1
    have e1 : (sq bey oth c0 d0 (k + 1)).1 = bey (sq bey oth c0 d0 k).1 (oth (sq bey oth c0 d0 k).1 (sq bey oth c0 d0 k).2):=rfl
    have e2 : (sq bey oth c0 d0 (k + 1)).2 = oth (sq bey oth c0 d0 k).1 (sq bey oth c0 d0 k).2:=rfl
    rw [← e2] at hb o1 o2 o3
    rw [← e2] at e1
    rw [← e1] at hb
    rcases hb with hb|⟨b1,b2,b3,b4⟩
    · omega
    refine ⟨fun i hi=>?_,fun i j hij hj=>?_⟩
    · rcases Nat.lt_or_ge i (k + 1) with h3|h3
      · exact g1 i (by omega)
      · have : i = k + 1:=by omega
        subst this
        exact ⟨b1,b3⟩
    · rcases Nat.lt_or_ge j (k + 1) with h3|h3
      · exact g2 i j hij (by omega)
      · have : j = k + 1:=by omega
        subst this
        intro e
        rcases Nat.lt_or_ge i k with hik|hik
        · -- an elder room
          obtain ⟨gi1,gi2⟩:=g1 i (by omega)
          obtain ⟨p1,p2,p3⟩:=h.other _ _ gi1 (h2 i (by omega)) gi2
          rw [← e] at b3 b4
          rcases p3 _ b3 with e3|e3
          · cases i with
            | zero =>
              have e4 : bey c0 d0 = (sq bey oth c0 d0 k).1:=by
                rw [← b4,e3];rfl
              rcases b.back (h1 0 (by omega)) with e5|e5
              · have:=gk1.1;omega
              · rw [e4,hf] at e5;cases e5
            | succ i =>
              obtain ⟨gj1,gj2⟩:=g1 i (by omega);obtain ⟨q1,q2,q3⟩:=h.other _ _ gj1 (h2 i (by omega)) gj2;have e6 : (sq bey oth c0 d0 (i + 1)).1 = bey (sq bey oth c0 d0 i).1 (sq bey oth c0 d0 (i + 1)).2:=rfl;rcases h.beyond _ _ gj1 q1 with e7|⟨_,_,_,e8⟩
              · have e9 : (sq bey oth c0 d0 (i + 1)).1 = -1:=e7
                have:=gi1.1;omega
              · have e9 : bey (sq bey oth c0 d0 (i + 1)).1 (sq bey oth c0 d0 (i + 1)).2 = (sq bey oth c0 d0 i).1:=e8
                rw [← e3,b4] at e9;exact g2 i k (by omega) (Nat.le_refl _) e9.symm
          · have e4 : oth (sq bey oth c0 d0 i).1 (sq bey oth c0 d0 i).2 = (sq bey oth c0 d0 (i + 1)).2:=rfl
            rw [e4] at e3
            have e5 : (sq bey oth c0 d0 (i + 1)).1 = (sq bey oth c0 d0 k).1:=by
              rw [← b4,e3];rfl
            rcases Nat.lt_or_ge (i + 1) k with h6|h6
            · exact g2 (i + 1) k h6 (Nat.le_refl _) e5
            · have : i + 1 = k:=by omega
              rw [this] at e3;exact o2 e3
        · have : i = k:=by omega
          subst this;exact b2 e.symm
/-- A walk is no longer than there are rooms. -/
theorem short {c0 : Int} {d0 : List Int} (b : Begin bey full door N c0 d0) (k : Nat) (h1 : ∀ i,i ≤ k→0 ≤ (sq bey oth c0 d0 i).1) (h2 : ∀ i,i < k→full (sq bey oth c0 d0 i).1 = false) : k + 1 ≤ N:=by
  obtain ⟨g1,g2⟩:=alive h b k h1 h2
  have hn : ((List.range (k + 1)).map fun i=>((sq bey oth c0 d0 i).1).toNat).Nodup:=by
    refine List.pairwise_map.2 (List.Pairwise.imp_of_mem ?_ List.pairwise_lt_range);intro a c ha hc hac e;have ha':=List.mem_range.1 ha;have hc':=List.mem_range.1 hc;have:=g2 a c hac (by omega);have x1:=h1 a (by omega);have x2:=h1 c (by omega);omega
  have:=len_le _ (List.range N) hn (fun x hx=>by
    obtain ⟨i,hi,rfl⟩:=List.mem_map.1 hx;have hi:=List.mem_range.1 hi;have:=(g1 i (by omega)).1;unfold inC at this;exact List.mem_range.2 (by omega))
  rw [List.length_map,List.length_range,List.length_range] at this;exact this
/-- Where a walk ends. -/
theorem ends {c0 : Int} {d0 : List Int} (b : Begin bey full door N c0 d0) : ∃ K,K ≤ N∧(∀ i,i < K→0 ≤ (sq bey oth c0 d0 i).1∧full (sq bey oth c0 d0 i).1 = false)∧((sq bey oth c0 d0 K).1 < 0 ∨ (0 ≤ (sq bey oth c0 d0 K).1∧full (sq bey oth c0 d0 K).1 = true)):=by
  refine Classical.byContradiction fun hno=>?_
  have hall : ∀ i,i ≤ N→0 ≤ (sq bey oth c0 d0 i).1∧full (sq bey oth c0 d0 i).1 = false:=fun i=>by
    induction i using Nat.strongRecOn with
    | _ i ih =>
      intro hi;refine Classical.byContradiction fun hc=>hno ⟨i,hi,fun j hj=>ih j hj (by omega),?_⟩
      rcases Int.lt_or_le (sq bey oth c0 d0 i).1 0 with h3|h3
      · exact .inl h3
      · refine .inr ⟨h3,?_⟩
        cases h4 : full (sq bey oth c0 d0 i).1 with
        | true=>rfl
        | false=>exact absurd ⟨h3,h4⟩ hc
  have:=short h b N (fun i hi=>(hall i hi).1) (fun i hi=>(hall i (by omega)).2);omega
end
end Go.Proofs.Ytcecimigkndakab.QFnExactFairCut.Path
/-! Triangles: tables of the cells and of the border, and what they say of doors: each edge has one cell or two. -/
namespace Go.Proofs.Ytcecimigkndakab.QFnExactFairCut
open Go.RowKit Go.Proofs.Ytcecimigkndakab.PFnExactFairCut Go.Proofs.YtcecimigkndakabW.PrintWords Go.Proofs.YtcecimigkndakabW.PrintLast Go.Proofs.YtcecimigkndakabW.PrintMore
set_option linter.unusedVariables false
set_option linter.unusedSimpArgs false
set_option maxRecDepth 100000
def cellsT : Nat→List (List Int)
  | 1=>[[0,1,2]]
  | 2=>[[0,1,2],[1,2,4],[1,3,4],[2,4,5]]
  | 3=>[[0,1,2],[1,2,4],[1,3,4],[2,4,5],[3,4,7],[3,6,7],[4,5,8],[4,7,8],[5,8,9]]
  | 4=>[[0,1,2],[1,2,4],[1,3,4],[2,4,5],[3,4,7],[3,6,7],[4,5,8],[4,7,8],[5,8,9],[6,7,11],[6,10,11],[7,8,12],[7,11,12],[8,9,13],[8,12,13],[9,13,14]]
  | 5=>[[0,1,2],[1,2,4],[1,3,4],[2,4,5],[3,4,7],[3,6,7],[4,5,8],[4,7,8],[5,8,9],[6,7,11],[6,10,11],[7,8,12],[7,11,12],[8,9,13],[8,12,13],[9,13,14],[10,11,16],[10,15,16],[11,12,17],[11,16,17],[12,13,18],[12,17,18],[13,14,19],[13,18,19],[14,19,20]]
  | 6=>[[0,1,2],[1,2,4],[1,3,4],[2,4,5],[3,4,7],[3,6,7],[4,5,8],[4,7,8],[5,8,9],[6,7,11],[6,10,11],[7,8,12],[7,11,12],[8,9,13],[8,12,13],[9,13,14],[10,11,16],[10,15,16],[11,12,17],[11,16,17],[12,13,18],[12,17,18],[13,14,19],[13,18,19],[14,19,20],[15,16,22],[15,21,22],[16,17,23],[16,22,23],[17,18,24],[17,23,24],[18,19,25],[18,24,25],[19,20,26],[19,25,26],[20,26,27]]
  | 7=>[[0,1,2],[1,2,4],[1,3,4],[2,4,5],[3,4,7],[3,6,7],[4,5,8],[4,7,8],[5,8,9],[6,7,11],[6,10,11],[7,8,12],[7,11,12],[8,9,13],[8,12,13],[9,13,14],[10,11,16],[10,15,16],[11,12,17],[11,16,17],[12,13,18],[12,17,18],[13,14,19],[13,18,19],[14,19,20],[15,16,22],[15,21,22],[16,17,23],[16,22,23],[17,18,24],[17,23,24],[18,19,25],[18,24,25],[19,20,26],[19,25,26],[20,26,27],[21,22,29],[21,28,29],[22,23,30],[22,29,30],[23,24,31],[23,30,31],[24,25,32],[24,31,32],[25,26,33],[25,32,33],[26,27,34],[26,33,34],[27,34,35]]
  | 8=>[[0,1,2],[1,2,4],[1,3,4],[2,4,5],[3,4,7],[3,6,7],[4,5,8],[4,7,8],[5,8,9],[6,7,11],[6,10,11],[7,8,12],[7,11,12],[8,9,13],[8,12,13],[9,13,14],[10,11,16],[10,15,16],[11,12,17],[11,16,17],[12,13,18],[12,17,18],[13,14,19],[13,18,19],[14,19,20],[15,16,22],[15,21,22],[16,17,23],[16,22,23],[17,18,24],[17,23,24],[18,19,25],[18,24,25],[19,20,26],[19,25,26],[20,26,27],[21,22,29],[21,28,29],[22,23,30],[22,29,30],[23,24,31],[23,30,31],[24,25,32],[24,31,32],[25,26,33],[25,32,33],[26,27,34],[26,33,34],[27,34,35],[28,29,37],[28,36,37],[29,30,38],[29,37,38],[30,31,39],[30,38,39],[31,32,40],[31,39,40],[32,33,41],[32,40,41],[33,34,42],[33,41,42],[34,35,43],[34,42,43],[35,43,44]]
  | _=>[]
def bordT : Nat→List Int
  | 1=>[0,1,2]
  | 2=>[0,1,3,4,5,2]
  | 3=>[0,1,3,6,7,8,9,5,2]
  | 4=>[0,1,3,6,10,11,12,13,14,9,5,2]
  | 5=>[0,1,3,6,10,15,16,17,18,19,20,14,9,5,2]
  | 6=>[0,1,3,6,10,15,21,22,23,24,25,26,27,20,14,9,5,2]
  | 7=>[0,1,3,6,10,15,21,28,29,30,31,32,33,34,35,27,20,14,9,5,2]
  | 8=>[0,1,3,6,10,15,21,28,36,37,38,39,40,41,42,43,44,35,27,20,14,9,5,2]
  | _=>[]
theorem cells_tab : ((List.range 9).all fun n=>n == 0 || cellsFn n == cellsT n) = true:=by decide +kernel
theorem bordI_tab : ((List.range 9).all fun n=>n == 0 || impl_border.f 120 (n : Int) == some (bordT n)) = true:=by decide +kernel
/-- The edges of a cell. -/
def edges (c : List Int) : List (List Int):=[[rd c 0,rd c 1],[rd c 0,rd c 2],[rd c 1,rd c 2]]
def wth (C : List (List Int)) (x y : Int) : List Int:=withFn C x y C.length 0
/-- A cell of a table: three points, rising; the cells at each of its edges are itself alone, or itself and one other that has the edge, too. -/
def okCell (C : List (List Int)) (m i : Nat) : Bool :=
  let c:=C.getD i []
  decide (c.length = 3) && decide (0 ≤ rd c 0) && decide (rd c 0 < rd c 1) && decide (rd c 1 < rd c 2) && decide (rd c 2 < (m : Int)) &&
    (edges c).all fun d=>match wth C (rd d 0) (rd d 1) with
      | [p]=>decide (p = (i : Int))
      | [p, q] => decide (p = (i : Int)) && decide (i < q.toNat) && decide (0 ≤ q) && decide (q.toNat < C.length) && (edges (C.getD q.toNat [])).contains d ||
          decide (q = (i : Int)) && decide (p.toNat < i) && decide (0 ≤ p) && decide (p.toNat < C.length) && (edges (C.getD p.toNat [])).contains d
      | _=>false
/-- The steps along a border. -/
def stepsT (b : List Int) : List (List Int):=(List.range b.length).map fun (t : Nat)=>[rd b (t : Int),rd b (Int.ofNat ((t + 1) % b.length))]
def inner (s : List Int) : List Int:=[mn (rd s 0) (rd s 1),mx (rd s 0) (rd s 1)]
/-- A step along the border is the edge of one cell alone. -/
def okStep (C : List (List Int)) (m : Nat) (s : List Int) : Bool :=
  decide (0 ≤ rd s 0) && decide (rd s 0 < (m : Int)) && decide (0 ≤ rd s 1) && decide (rd s 1 < (m : Int)) &&
    match wth C (rd (inner s) 0) (rd (inner s) 1) with
      | [p]=>decide (0 ≤ p) && decide (p.toNat < C.length) && (edges (C.getD p.toNat [])).contains (inner s)
      | _=>false
theorem geo : ((List.range 9).all fun n=>n == 0 || (decide ((cellsT n).length = n * n) && decide ((bordT n).length = 3 * n) && ((List.range (n * n)).all (okCell (cellsT n) (many n)) && (stepsT (bordT n)).all (okStep (cellsT n) (many n))))) = true:=by decide +kernel
section
variable {n : Nat} (h : Side n)
include h
theorem Side.tab {f : Nat→Bool} (hf : ((List.range 9).all fun n=>n == 0 || f n) = true) : f n = true:=by
  have a:=List.all_eq_true.1 hf n (by simp;have:=h.hi;omega);have z : (n == 0) = false:=by simp;have:=h.lo;omega
  rw [z,Bool.false_or] at a;exact a
theorem Side.cellsT : cellsFn n = cellsT n:=eq_of_beq (h.tab cells_tab)
theorem Side.cellsI : Ev (fun k=>impl_cells.f k (n : Int)) (QFnExactFairCut.cellsT n):=by rw [← h.cellsT];exact h.cells
theorem Side.cellsS : Ev (fun k=>spec_meCells.f k (n : Int)) (QFnExactFairCut.cellsT n):=by rw [← h.cellsT];exact h.meCells
theorem Side.bordI : Ev (fun k=>impl_border.f k (n : Int)) (bordT n):=Ev.of (fun k=>impl_border.mono _ k) (eq_of_beq (h.tab bordI_tab))
theorem Side.geo : (QFnExactFairCut.cellsT n).length = n * n∧(bordT n).length = 3 * n∧(∀ i,i < n * n→okCell (QFnExactFairCut.cellsT n) (many n) i = true)∧∀ s ∈ stepsT (bordT n),okStep (QFnExactFairCut.cellsT n) (many n) s = true:=by
  have a:=h.tab QFnExactFairCut.geo;simp only [Bool.and_eq_true,decide_eq_true_eq] at a;exact ⟨a.1.1,a.1.2,fun i hi=>List.all_eq_true.1 a.2.1 i (List.mem_range.2 hi),fun s hs=>List.all_eq_true.1 a.2.2 s hs⟩
end
end Go.Proofs.Ytcecimigkndakab.QFnExactFairCut
/-! The border, as the reference counts it. -/
namespace Go.Proofs.Ytcecimigkndakab.QFnExactFairCut
open Go.RowKit Go.Proofs.Ytcecimigkndakab.PFnExactFairCut Go.Proofs.YtcecimigkndakabW.PrintWords Go.Proofs.YtcecimigkndakabW.PrintLast Go.Proofs.YtcecimigkndakabW.PrintMore
set_option linter.unusedVariables false
set_option linter.unusedSimpArgs false
set_option maxRecDepth 100000
theorem bordS_tab : ((List.range 9).all fun n=>n == 0 || spec_meBorder.f 100 (n : Int) == some (bordT n)) = true:=by decide +kernel
theorem Side.bordS {n : Nat} (h : Side n) : Ev (fun k=>spec_meBorder.f k (n : Int)) (bordT n):=Ev.of (fun k=>spec_meBorder.mono _ k) (eq_of_beq (h.tab bordS_tab))
end Go.Proofs.Ytcecimigkndakab.QFnExactFairCut
/-! Rooms and doors: what the program's functions and the reference's tell of them, as plain functions. -/
namespace Go.Proofs.Ytcecimigkndakab.QFnExactFairCut
open Go.RowKit Go.Proofs.Ytcecimigkndakab.PFnExactFairCut Go.Proofs.YtcecimigkndakabW.PrintWords Go.Proofs.YtcecimigkndakabW.PrintLast Go.Proofs.YtcecimigkndakabW.PrintMore
set_option linter.unusedVariables false
set_option linter.unusedSimpArgs false
set_option maxRecDepth 100000
/-- Are the ends of an edge labelled 0 and 1? -/
def dr (L : List Int) (d : List Int) : Bool:=decide (rd L (rd d 0) + rd L (rd d 1) = 1)
def doorsL (L c : List Int) : List (List Int):=(edges c).filter (dr L)
def fullL (L c : List Int) : Bool:=decide (rd L (rd c 0)≠rd L (rd c 1)∧rd L (rd c 0)≠rd L (rd c 2)∧rd L (rd c 1)≠rd L (rd c 2))
/-- Labels of m points. -/
structure Lbl (L : List Int) (m : Nat) : Prop where
  len : L.length = m
  small : m ≤ 1000
  ok : ∀ i : Int,0 ≤ i→i < (m : Int)→0 ≤ rd L i∧rd L i ≤ 2
/-- A cell: three points, rising. -/
structure Tri (c : List Int) (m : Nat) : Prop where
  len : c.length = 3
  lo : 0 ≤ rd c 0
  ab : rd c 0 < rd c 1
  bc : rd c 1 < rd c 2
  hi : rd c 2 < (m : Int)
theorem lbl_of {L : List Int} {m : Nat} (hl : L.length = m) (hm : m ≤ 1000) (ho : okB L = true) : Lbl L m:=⟨hl,hm,fun i h0 h1=>by
  have hlt : i.toNat < L.length:=by omega
  have e : rd L i = L[i.toNat]:=by
    unfold rd;rw [List.getD_eq_getElem?_getD,List.getElem?_eq_getElem hlt];rfl
  rw [e];have:=List.all_eq_true.1 ho _ (List.getElem_mem hlt);exact of_decide_eq_true this⟩
theorem edges_ok {c : List Int} {m : Nat} (hc : Tri c m) : ∀ e ∈ edges c,∃ x y,e = [x,y]∧(0 ≤ x∧x < (m : Int))∧(0 ≤ y∧y < (m : Int)):=fun e he=>by
  have h1:=hc.lo;have h2:=hc.ab;have h3:=hc.bc;have h4:=hc.hi;unfold edges at he;simp only [List.mem_cons,List.not_mem_nil,or_false] at he;rcases he with e1|e1|e1
  · exact ⟨_,_,e1,by omega,by omega⟩
  · exact ⟨_,_,e1,by omega,by omega⟩
  · exact ⟨_,_,e1,by omega,by omega⟩
theorem bits_full {x y z : Int} (hx : 0 ≤ x∧x ≤ 2) (hy : 0 ≤ y∧y ≤ 2) (hz : 0 ≤ z∧z ≤ 2) : (Go.bits .or .i64 (Go.bits .or .i64 (shl .i64 1 x) (shl .i64 1 y)) (shl .i64 1 z) == 7) = decide (x≠y∧x≠z∧y≠z)∧(Go.bits .or .i64 (Go.bits .or .i64 (Go.bits .or .i64 0 (shl .i64 1 x)) (shl .i64 1 y)) (shl .i64 1 z) == 7) = decide (x≠y∧x≠z∧y≠z):=by
  have h1 : x = 0 ∨ x = 1 ∨ x = 2:=by omega
  have h2 : y = 0 ∨ y = 1 ∨ y = 2:=by omega
  have h3 : z = 0 ∨ z = 1 ∨ z = 2:=by omega
  rcases h1 with rfl|rfl|rfl <;> rcases h2 with rfl|rfl|rfl <;> rcases h3 with rfl|rfl|rfl <;> decide
section
variable {L : List Int} {m : Nat} (hL : Lbl L m)
include hL
theorem isDoor_eq (a0 : Int) (C : List (List Int)) (B : List Int) {i j : Int} (hi : 0 ≤ i∧i < (m : Int)) (hj : 0 ≤ j∧j < (m : Int)) : impl_house_isDoor.f a0 L C B i j = some (dr L [i,j]):=by
  have h1:=hL.ok i hi.1 hi.2;have h2:=hL.ok j hj.1 hj.2;have hl:=hL.len;unfold impl_house_isDoor.f dr;rw [if_pos hi.1,if_pos (by omega),if_pos hj.1,if_pos (by omega),show rd [i,j] 0 = i from rfl,show rd [i,j] 1 = j from rfl];by_cases e : rd L i = rd L j
  · rw [if_pos e,decide_eq_false (by omega)]
  · rw [if_neg e]
    by_cases e2 : rd L i < 2
    · rw [if_pos e2]
      congr 1;rw [decide_eq_decide];omega
    · rw [if_neg e2,decide_eq_false (by omega)]
theorem doDoor_eq {i j : Int} (hi : 0 ≤ i∧i < (m : Int)) (hj : 0 ≤ j∧j < (m : Int)) : spec_doDoor.f L i j = some (dr L [i,j]):=by
  have h1:=hL.ok i hi.1 hi.2;have h2:=hL.ok j hj.1 hj.2;have hl:=hL.len;unfold spec_doDoor.f dr;rw [if_pos hi.1,if_pos (by omega),if_pos hj.1,if_pos (by omega),wr (by omega) (by omega)];congr 1
/-! ### doors of a cell -/
theorem idoors_loop (a0 : Int) (C : List (List Int)) (B : List Int) (E : List (List Int)) (hE : E.length ≤ 1000) (hp : ∀ e ∈ E,∃ x y,e = [x,y]∧(0 ≤ x∧x < (m : Int))∧(0 ≤ y∧y < (m : Int))) :
    ∀ (d i : Nat) (acc : List (List Int)),i + d = E.length→acc.length ≤ 10000 + i→Ev (fun k=>impl_house_doors.l0 k acc E (E.length : Int) (i : Int) a0 L C B) (acc ++ (E.drop i).filter (dr L))
  | 0,i,acc,h,_=>Ev.step (fun f=>impl_house_doors.l0.eq_2 ..) (ev_neg (by omega) (ev_eq (Ev.now _) (by rw [List.drop_eq_nil_of_le (by omega)];simp)))
  | d + 1,i,acc,h,ha=>by
    have hlt : i < E.length:=by omega
    obtain ⟨x,y,e,hx,hy⟩:=hp _ (List.getElem_mem hlt)
    have er : rd_L1 E (i : Int) = [x,y]:=by unfold rd_L1;rw [Int.toNat_natCast,List.getD_eq_getElem?_getD,List.getElem?_eq_getElem hlt,e];rfl
    have ih:=fun acc' hacc=>idoors_loop a0 C B E hE hp d (i + 1) acc' (by omega) hacc
    refine Ev.step (fun f=>impl_house_doors.l0.eq_2 ..) (ev_pos (by omega) (ev_pos (by omega) (ev_pos (by omega) ?_)))
    rw [er]
    refine ev_pos (by simp) (ev_pos (by simp) (ev_bind0 (isDoor_eq hL a0 C B (i:=rd [x,y] 0) (j:=rd [x,y] 1) hx hy) ?_))
    rw [wr (by omega) (by omega),List.drop_eq_getElem_cons hlt,e,List.filter_cons]
    show Ev (fun k=>if dr L [x,y] = true then _ else _) _
    by_cases hd : dr L [x,y] = true
    · rw [if_pos hd]
      refine ev_pos hd (ev_pos (by omega) ?_)
      have:=ih (acc ++ [[x,y]]) (by simp;omega)
      rw [List.append_assoc] at this
      exact this
    · rw [if_neg hd]
      exact ev_neg hd (ih acc (by omega))
theorem idoors_ev (a0 : Int) (C : List (List Int)) (B : List Int) {ci : Int} (h0 : 0 ≤ ci) (h1 : ci < (C.length : Int)) (hc : Tri (C.getD ci.toNat []) m) : Ev (fun k=>impl_house_doors.f k a0 L C B ci) (doorsL L (C.getD ci.toNat [])):=by
  have hl:=hc.len;have er : rd_L1 C ci = C.getD ci.toNat []:=rfl;unfold impl_house_doors.f;rw [er];refine ev_pos h0 (ev_pos h1 (ev_pos (by omega) (ev_pos (by omega) (ev_pos (by omega) (ev_bind0 rfl ?_)))));have:=idoors_loop hL a0 C B (edges (C.getD ci.toNat [])) (by simp [edges]) (edges_ok hc) 3 0 [] rfl (by simp);rw [List.nil_append,List.drop_zero] at this;exact this
theorem sdoors_l1 (c : List Int) (xa xi : Int) (hxa : 0 ≤ xa∧xa < (m : Int)) (R : List Int) (hR : R.length ≤ 100) (hp : ∀ y ∈ R,0 ≤ y∧y < (m : Int)) (r : List (List Int)) : ∀ (d i : Nat) (acc : List (List Int)),i + d = R.length→acc.length ≤ 10000 + i →
    Ev (fun k=>spec_doOfCell.l0 k L c (acc ++ ((R.drop i).map fun b=>[xa,b]).filter (dr L)) c (c.length : Int) (wrap64 (xi + 1))) r→Ev (fun k=>spec_doOfCell.l1 k L c acc xa c (c.length : Int) xi R (R.length : Int) (i : Int)) r
  | 0,i,acc,h,ha,cont=>by
    rw [List.drop_eq_nil_of_le (by omega),List.map_nil,List.filter_nil,List.append_nil] at cont
    exact Ev.step (fun f=>spec_doOfCell.l1.eq_2 ..) (ev_neg (by omega) cont)
  | d + 1,i,acc,h,ha,cont=>by
    have hlt : i < R.length:=by omega
    have e : rd R (i : Int) = R[i]:=rd_at hlt
    have hy:=hp _ (List.getElem_mem hlt)
    rw [List.drop_eq_getElem_cons hlt,List.map_cons,List.filter_cons] at cont
    refine Ev.step (fun f=>spec_doOfCell.l1.eq_2 ..) (ev_pos (by omega) (ev_pos (by omega) (ev_pos (by omega) ?_)))
    rw [e,wr (by omega) (by omega)]
    refine ev_bind0 (doDoor_eq hL hxa hy) ?_
    by_cases hd : dr L [xa,R[i]] = true
    · rw [if_pos hd] at cont
      refine ev_pos hd (ev_pos (by omega) (sdoors_l1 c xa xi hxa R hR hp r d (i + 1) (acc ++ [[xa,R[i]]]) (by omega) (by simp;omega) ?_))
      rw [List.append_assoc];exact cont
    · rw [if_neg hd] at cont
      exact ev_neg hd (sdoors_l1 c xa xi hxa R hR hp r d (i + 1) acc (by omega) (by omega) cont)
theorem sdoors_ev {c : List Int} (hc : Tri c m) : Ev (fun k=>spec_doOfCell.f k L c) (doorsL L c):=by
  have hl:=hc.len;have h1:=hc.lo;have h2:=hc.ab;have h3:=hc.bc;have h4:=hc.hi
  obtain ⟨x,y,z,rfl⟩ : ∃ x y z,c = [x,y,z]:=by
    match c,hl with
    | [x,y,z],_=>exact ⟨x,y,z,rfl⟩
  have e0 : rd [x,y,z] 0 = x:=rfl;have e1 : rd [x,y,z] 1 = y:=rfl;have e2 : rd [x,y,z] 2 = z:=rfl;rw [e0] at h1;rw [e0,e1] at h2;rw [e1,e2] at h3;rw [e2] at h4;unfold spec_doOfCell.f;refine Ev.step (fun f=>spec_doOfCell.l0.eq_2 ..) (ev_pos (by simp) (ev_pos (by simp) (ev_pos (by simp) ?_)));rw [w01];refine ev_pos (by simp) (ev_pos (by simp) ?_);refine sdoors_l1 hL [x,y,z] x 0 (by omega) [y,z] (by simp) (fun v hv=>by simp at hv;omega) _ 2 0 [] rfl (by simp) ?_;rw [w01];refine Ev.step (fun f=>spec_doOfCell.l0.eq_2 ..) (ev_pos (by simp) (ev_pos (by simp) (ev_pos (by simp) ?_)));rw [w12];refine ev_pos (by simp) (ev_pos (by simp) ?_)
  have hlen : ∀ l : List Int,(([] : List (List Int)) ++ (l.map fun b=>[x,b]).filter (dr L)).length ≤ l.length:=fun l=>by
    rw [List.nil_append];exact Nat.le_trans (List.length_filter_le _ _) (by simp)
  have hl2:=hlen (List.drop 0 [y,z]);refine sdoors_l1 hL [x,y,z] y 1 (by omega) [z] (by simp) (fun v hv=>by simp at hv;omega) _ 1 0 _ rfl (Nat.le_trans hl2 (by simp)) ?_;rw [w12];refine Ev.step (fun f=>spec_doOfCell.l0.eq_2 ..) (ev_pos (by simp) (ev_pos (by simp) (ev_pos (by simp) ?_)));rw [w23];refine ev_pos (by simp) (ev_pos (by simp) ?_);refine sdoors_l1 hL [x,y,z] z 2 (by omega) [] (by simp) (fun v hv=>by cases hv) _ 0 0 _ rfl ?_ ?_
  · have:=List.length_filter_le (dr L) ((List.drop 0 [z]).map fun b=>[y,b])
    rw [List.length_append];simp at this hl2 ⊢;omega
  rw [w23];refine Ev.step (fun f=>spec_doOfCell.l0.eq_2 ..) (ev_neg (by simp) (ev_eq (Ev.now _) ?_));unfold doorsL edges;rw [e0,e1,e2];simp only [List.drop_zero,List.map_cons,List.map_nil,List.filter_cons,List.filter_nil,List.nil_append];cases dr L [x,y] <;> cases dr L [x,z] <;> cases dr L [y,z] <;> rfl
/-! ### full cells -/
theorem isFull_eq (a0 : Int) (C : List (List Int)) (B : List Int) {ci : Int} (h0 : 0 ≤ ci) (h1 : ci < (C.length : Int)) (hc : Tri (C.getD ci.toNat []) m) : impl_house_isFull.f a0 L C B ci = some (fullL L (C.getD ci.toNat [])):=by
  have hl:=hc.len;have g1:=hc.lo;have g2:=hc.ab;have g3:=hc.bc;have g4:=hc.hi;have hll:=hL.len;have er : rd_L1 C ci = C.getD ci.toNat []:=rfl;unfold impl_house_isFull.f;rw [er];generalize C.getD ci.toNat [] = c at *;have r0:=hL.ok (rd c 0) (by omega) (by omega);have r1:=hL.ok (rd c 1) (by omega) (by omega);have r2:=hL.ok (rd c 2) (by omega) (by omega);rw [if_pos h0,if_pos h1,if_pos (by omega),if_pos (by omega),if_pos (by omega),if_pos (by omega),if_pos (by omega),if_pos (by omega),if_pos (by omega),if_pos (by omega),if_pos (by omega),if_pos (by omega),if_pos (by omega),if_pos (by omega)];rw [(bits_full r0 r1 r2).1];rfl
theorem doFull_ev {c : List Int} (hc : Tri c m) : Ev (fun k=>spec_doFull.f k L c) (fullL L c):=by
  have hl:=hc.len;have g1:=hc.lo;have g2:=hc.ab;have g3:=hc.bc;have g4:=hc.hi;have hll:=hL.len;have r0:=hL.ok (rd c 0) (by omega) (by omega);have r1:=hL.ok (rd c 1) (by omega) (by omega);have r2:=hL.ok (rd c 2) (by omega) (by omega);unfold spec_doFull.f;refine Ev.step (fun f=>spec_doFull.l0.eq_2 ..) (ev_pos (by omega) (ev_pos (by omega) (ev_pos (by omega) (ev_pos (by omega) (ev_pos (by omega) (ev_pos (by omega) ?_))))));rw [w01];refine Ev.step (fun f=>spec_doFull.l0.eq_2 ..) (ev_pos (by omega) (ev_pos (by omega) (ev_pos (by omega) (ev_pos (by omega) (ev_pos (by omega) (ev_pos (by omega) ?_))))));rw [w12];refine Ev.step (fun f=>spec_doFull.l0.eq_2 ..) (ev_pos (by omega) (ev_pos (by omega) (ev_pos (by omega) (ev_pos (by omega) (ev_pos (by omega) (ev_pos (by omega) ?_))))));rw [w23];refine Ev.step (fun f=>spec_doFull.l0.eq_2 ..) (ev_neg (by omega) (ev_eq (Ev.now _) ?_));rw [(bits_full r0 r1 r2).2];rfl
end
/-! ### behind a door -/
/-- The first number other than one. -/
def fb : List Int→Int→Int
  | [],_=>-1
  | p :: r,c=>if p = c then fb r c else p
theorem beyond_loop (W : List Int) (hW : W.length ≤ 1000) (c : Int) : ∀ d i : Nat,i + d = W.length→Ev (fun k=>impl_house_beyond.l0 k c W (W.length : Int) (i : Int)) (fb (W.drop i) c)
  | 0,i,h=>Ev.step (fun f=>impl_house_beyond.l0.eq_2 ..) (ev_neg (by omega) (ev_eq (Ev.now _) (by rw [List.drop_eq_nil_of_le (by omega)];rfl)))
  | d + 1,i,h=>by
    have hlt : i < W.length:=by omega
    refine Ev.step (fun f=>impl_house_beyond.l0.eq_2 ..) (ev_pos (by omega) (ev_pos (by omega) (ev_pos (by omega) ?_)))
    rw [rd_at hlt,wr (by omega) (by omega),List.drop_eq_getElem_cons hlt,fb]
    by_cases e : W[i] = c
    · rw [if_pos e];exact ev_pos e (beyond_loop W hW c d (i + 1) (by omega))
    · rw [if_neg e];exact ev_neg e (Ev.now _)
theorem next_loop (W : List Int) (hW : W.length ≤ 1000) (c : Int) : ∀ d i : Nat,i + d = W.length→Ev (fun k=>spec_doNext.l0 k c W (W.length : Int) (i : Int)) (fb (W.drop i) c)
  | 0,i,h=>Ev.step (fun f=>spec_doNext.l0.eq_2 ..) (ev_neg (by omega) (ev_eq (Ev.now _) (by rw [List.drop_eq_nil_of_le (by omega)];rfl)))
  | d + 1,i,h=>by
    have hlt : i < W.length:=by omega
    refine Ev.step (fun f=>spec_doNext.l0.eq_2 ..) (ev_pos (by omega) (ev_pos (by omega) (ev_pos (by omega) ?_)))
    rw [rd_at hlt,wr (by omega) (by omega),List.drop_eq_getElem_cons hlt,fb]
    by_cases e : W[i] = c
    · rw [if_pos e];exact ev_pos e (next_loop W hW c d (i + 1) (by omega))
    · rw [if_neg e];exact ev_neg e (Ev.now _)
def bey (C : List (List Int)) (c : Int) (d : List Int) : Int:=fb (wth C (rd d 0) (rd d 1)) c
theorem beyond_ev {C : List (List Int)} (hl : C.length ≤ 100) (he : ∀ c ∈ C,c.length = 3) (a0 : Int) (L B : List Int) (c : Int) {d : List Int} (hd : d.length = 2) : Ev (fun k=>impl_house_beyond.f k a0 L C B c d) (bey C c d):=by
  have hw:=withFn_len C (rd d 0) (rd d 1) C.length 0;refine ev_pos (by omega) (ev_pos (by omega) (Ev.bind (with_ev C (rd d 0) (rd d 1) (by omega) he) ?_));exact beyond_loop (wth C (rd d 0) (rd d 1)) (Nat.le_trans hw (by omega)) c (wth C (rd d 0) (rd d 1)).length 0 (by omega)
theorem nextR_ev {C : List (List Int)} (hl : C.length ≤ 100) (he : ∀ c ∈ C,c.length = 3) (c : Int) {d : List Int} (hd : d.length = 2) : Ev (fun k=>spec_doNext.f k C d c) (bey C c d):=by
  have hw:=withFn_len C (rd d 0) (rd d 1) C.length 0;refine ev_pos (by omega) (ev_pos (by omega) (Ev.bind (meWith_ev C (rd d 0) (rd d 1) (by omega) he) ?_));exact next_loop (wth C (rd d 0) (rd d 1)) (Nat.le_trans hw (by omega)) c (wth C (rd d 0) (rd d 1)).length 0 (by omega)
/-! ### equal lists -/
theorem drop_eq {a b : List Int} (hl : a.length = b.length) {i : Nat} (hi : i < a.length) : (a.drop i = b.drop i) ↔ (rd a (i : Int) = rd b (i : Int)∧a.drop (i + 1) = b.drop (i + 1)):=by
  rw [List.drop_eq_getElem_cons hi,List.drop_eq_getElem_cons (show i < b.length by omega),List.cons.injEq,rd_at hi,rd_at (show i < b.length by omega)]
theorem equal_loop (a b : List Int) (hl : a.length = b.length) (hs : a.length ≤ 1000000) : ∀ d i : Nat,i + d = a.length→Ev (fun k=>slices_Equal_int_int.l0 k a b (a.length : Int) (i : Int)) (decide (a.drop i = b.drop i))
  | 0,i,h=>Ev.step (fun f=>slices_Equal_int_int.l0.eq_2 ..) (ev_neg (by omega) (ev_eq (Ev.now _) (by rw [List.drop_eq_nil_of_le (by omega),List.drop_eq_nil_of_le (by omega)];rfl)))
  | d + 1,i,h=>by
    have hd:=drop_eq hl (show i < a.length by omega)
    refine Ev.step (fun f=>slices_Equal_int_int.l0.eq_2 ..) (ev_pos (by omega) (ev_pos (by omega) (ev_pos (by omega) (ev_pos (by omega) ?_))))
    rw [wr (by omega) (by omega)]
    by_cases e : rd a (i : Int) = rd b (i : Int)
    · exact ev_pos e (ev_eq (equal_loop a b hl hs d (i + 1) (by omega)) (by rw [decide_eq_decide];exact ⟨fun z=>hd.2 ⟨e,z⟩,fun z=>(hd.1 z).2⟩))
    · exact ev_neg e (ev_eq (Ev.now _) (by rw [decide_eq_false (fun z=>e (hd.1 z).1)]))
theorem equal_ev (a b : List Int) (hs : a.length ≤ 1000000) : Ev (fun k=>slices_Equal_int_int.f k a b) (decide (a = b)):=by
  by_cases hl : a.length = b.length
  · have:=equal_loop a b hl hs a.length 0 (by omega)
    rw [List.drop_zero,List.drop_zero] at this;exact ev_pos (by omega) this
  · exact ev_neg (by omega) (ev_eq (Ev.now _) (decide_eq_false (fun z=>hl (by rw [z]))).symm)
theorem same_loop (a b : List Int) (hl : a.length = b.length) (hs : a.length ≤ 1000000) : ∀ d i : Nat,i + d = a.length→Ev (fun k=>spec_l1Same.l0 k a b (a.length : Int) (i : Int)) (decide (a.drop i = b.drop i))
  | 0,i,h=>Ev.step (fun f=>spec_l1Same.l0.eq_2 ..) (ev_neg (by omega) (ev_eq (Ev.now _) (by rw [List.drop_eq_nil_of_le (by omega),List.drop_eq_nil_of_le (by omega)];rfl)))
  | d + 1,i,h=>by
    have hd:=drop_eq hl (show i < a.length by omega)
    refine Ev.step (fun f=>spec_l1Same.l0.eq_2 ..) (ev_pos (by omega) (ev_pos (by omega) (ev_pos (by omega) (ev_pos (by omega) ?_))))
    rw [wr (by omega) (by omega)]
    by_cases e : rd a (i : Int) = rd b (i : Int)
    · exact ev_pos e (ev_eq (same_loop a b hl hs d (i + 1) (by omega)) (by rw [decide_eq_decide];exact ⟨fun z=>hd.2 ⟨e,z⟩,fun z=>(hd.1 z).2⟩))
    · exact ev_neg e (ev_eq (Ev.now _) (by rw [decide_eq_false (fun z=>e (hd.1 z).1)]))
theorem same_ev (a b : List Int) (hs : a.length ≤ 1000000) : Ev (fun k=>spec_l1Same.f k a b) (decide (a = b)):=by
  by_cases hl : a.length = b.length
  · have:=same_loop a b hl hs a.length 0 (by omega)
    rw [List.drop_zero,List.drop_zero] at this;exact ev_pos (by omega) this
  · exact ev_neg (by omega) (ev_eq (Ev.now _) (decide_eq_false (fun z=>hl (by rw [z]))).symm)
/-! ### the other door -/
/-- The first door other than one. -/
def fo : List (List Int)→List Int→List Int
  | [],_=>[]
  | e :: r,d=>if e = d then fo r d else e
theorem other_loop (E : List (List Int)) (hE : E.length ≤ 1000) (he : ∀ e ∈ E,e.length ≤ 1000) (d : List Int) : ∀ q i : Nat,i + q = E.length→Ev (fun k=>impl_house_other.l0 k d E (E.length : Int) (i : Int)) (fo (E.drop i) d)
  | 0,i,h=>Ev.step (fun f=>impl_house_other.l0.eq_2 ..) (ev_neg (by omega) (ev_eq (Ev.now _) (by rw [List.drop_eq_nil_of_le (by omega)];rfl)))
  | q + 1,i,h=>by
    have hlt : i < E.length:=by omega
    have er : rd_L1 E (i : Int) = E[i]:=by unfold rd_L1;rw [Int.toNat_natCast,List.getD_eq_getElem?_getD,List.getElem?_eq_getElem hlt];rfl
    have hl:=he _ (List.getElem_mem hlt)
    refine Ev.step (fun f=>impl_house_other.l0.eq_2 ..) (ev_pos (by omega) (ev_pos (by omega) (ev_pos (by omega) ?_)))
    rw [er,wr (by omega) (by omega),List.drop_eq_getElem_cons hlt,fo]
    refine Ev.bind (equal_ev _ _ (by omega)) ?_
    by_cases e : E[i] = d
    · rw [if_pos e];exact ev_pos (decide_eq_true e) (other_loop E hE he d q (i + 1) (by omega))
    · rw [if_neg e];exact ev_neg (by rw [decide_eq_false e];decide) (Ev.now _)
end Go.Proofs.Ytcecimigkndakab.QFnExactFairCut
/-! The rooms of a labelled triangle are a house; the walks of the program's and of the reference's are the walk of that house. -/
namespace Go.Proofs.Ytcecimigkndakab.QFnExactFairCut
open Go.RowKit Go.Proofs.Ytcecimigkndakab.PFnExactFairCut Go.Proofs.YtcecimigkndakabW.PrintWords Go.Proofs.YtcecimigkndakabW.PrintLast Go.Proofs.YtcecimigkndakabW.PrintMore
set_option linter.unusedVariables false
set_option linter.unusedSimpArgs false
set_option maxRecDepth 100000
/-- Labels of a triangle. -/
structure Home (n : Nat) (L : List Int) : Prop where
  side : Side n
  lbl : Lbl L (many n)
def cl (n : Nat) (c : Int) : List Int:=(cellsT n).getD c.toNat []
def fullAt (n : Nat) (L : List Int) (c : Int) : Bool:=fullL L (cl n c)
def doorAt (n : Nat) (L : List Int) (c : Int) (d : List Int) : Prop:=d ∈ doorsL L (cl n c)
def othAt (n : Nat) (L : List Int) (c : Int) (d : List Int) : List Int:=fo (doorsL L (cl n c)) d
def beyAt (n : Nat) (c : Int) (d : List Int) : Int:=bey (cellsT n) c d
theorem getD_lt {l : List (List Int)} {i : Nat} (h : i < l.length) : l.getD i [] ∈ l:=by
  rw [List.getD_eq_getElem?_getD,List.getElem?_eq_getElem h];exact List.getElem_mem h
section
variable {n : Nat} {L : List Int} (H : Home n L)
include H
theorem Home.nn : n * n ≤ 64:=Nat.le_trans (Nat.mul_le_mul H.side.hi H.side.hi) (by decide)
theorem Home.len : (cellsT n).length = n * n:=H.side.geo.1
theorem Home.lenC : (cellsT n).length ≤ 100:=by rw [H.len];have:=H.nn;omega
theorem Home.cell {c : Int} (hc : Path.inC (n * n) c) : okCell (cellsT n) (many n) c.toNat = true:=H.side.geo.2.2.1 _ (by unfold Path.inC at hc;omega)
theorem Home.tri {c : Int} (hc : Path.inC (n * n) c) : Tri (cl n c) (many n):=by
  have a:=H.cell hc;unfold okCell at a;simp only [Bool.and_eq_true,decide_eq_true_eq] at a;exact ⟨a.1.1.1.1.1,a.1.1.1.1.2,a.1.1.1.2,a.1.1.2,a.1.2⟩
theorem Home.three : ∀ c ∈ cellsT n,c.length = 3:=fun c hc=>by
  obtain ⟨i,hi,e⟩:=List.getElem_of_mem hc;have:=(H.tri (c:=(i : Int)) (by unfold Path.inC;rw [← H.len];omega)).len;unfold cl at this;rw [Int.toNat_natCast,List.getD_eq_getElem?_getD,List.getElem?_eq_getElem hi] at this;rw [← e];exact this
theorem Home.range {c : Int} (hc : Path.inC (n * n) c) : 0 ≤ c∧c < ((cellsT n).length : Int):=by rw [H.len];exact hc
/-- A door has two ends. -/
theorem Home.two {c : Int} (hc : Path.inC (n * n) c) {d : List Int} (hd : doorAt n L c d) : d.length = 2:=by
  unfold doorAt doorsL at hd;obtain ⟨x,y,e,_⟩:=edges_ok (H.tri hc) d (List.mem_filter.1 hd).1;rw [e];rfl
theorem Home.oth2 {c : Int} {d : List Int} (hc : Path.inC (n * n) c) (hf : fullAt n L c = false) (hd : doorAt n L c d) : doorAt n L c (othAt n L c d)∧othAt n L c d≠d∧∀ e,doorAt n L c e→e = d ∨ e = othAt n L c d:=by
    have T:=H.tri hc;unfold fullAt at hf;unfold doorAt othAt at *;generalize cl n c = w at *;have g1:=T.lo;have g2:=T.ab;have g3:=T.bc;have g4:=T.hi;have r0:=H.lbl.ok (rd w 0) (by omega) (by omega);have r1:=H.lbl.ok (rd w 1) (by omega) (by omega);have r2:=H.lbl.ok (rd w 2) (by omega) (by omega);have nf : ¬ (rd L (rd w 0)≠rd L (rd w 1)∧rd L (rd w 0)≠rd L (rd w 2)∧rd L (rd w 1)≠rd L (rd w 2)):=of_decide_eq_false hf;have n1 : ([rd w 0,rd w 1] : List Int)≠[rd w 0,rd w 2]:=fun e=>by simp at e;omega
    have n2 : ([rd w 0,rd w 1] : List Int)≠[rd w 1,rd w 2]:=fun e=>by simp at e;omega
    have n3 : ([rd w 0,rd w 2] : List Int)≠[rd w 1,rd w 2]:=fun e=>by simp at e;omega
    have d1 : dr L [rd w 0,rd w 1] = decide (rd L (rd w 0) + rd L (rd w 1) = 1):=rfl;have d2 : dr L [rd w 0,rd w 2] = decide (rd L (rd w 0) + rd L (rd w 2) = 1):=rfl;have d3 : dr L [rd w 1,rd w 2] = decide (rd L (rd w 1) + rd L (rd w 2) = 1):=rfl
    have two : ∀ X Y : List Int,X≠Y→d ∈ [X,Y]→fo [X,Y] d ∈ [X,Y]∧fo [X,Y] d≠d∧∀ e,e ∈ [X,Y]→e = d ∨ e = fo [X,Y] d:=fun X Y hne hm=>by
      rcases List.mem_cons.1 hm with e|e
      · subst e
        have : fo [d,Y] d = Y:=by simp [fo,hne.symm]
        rw [this];exact ⟨by simp,hne.symm,fun e he=>by simpa using he⟩
      · have e:=List.mem_singleton.1 e
        subst e;have : fo [X,d] d = X:=by simp [fo,hne]
        rw [this]
        exact ⟨by simp, hne, fun e he => by rcases List.mem_cons.1 he with h | h; · exact .inr h
                                            · exact .inl (List.mem_singleton.1 h)⟩
    by_cases h1 : rd L (rd w 0) + rd L (rd w 1) = 1
    · by_cases h2 : rd L (rd w 0) + rd L (rd w 2) = 1
      · have h3 : ¬ rd L (rd w 1) + rd L (rd w 2) = 1:=by omega
        have E : doorsL L w = [[rd w 0,rd w 1],[rd w 0,rd w 2]]:=by simp [doorsL,edges,List.filter_cons,d1,d2,d3,h1,h2,h3]
        rw [E] at hd ⊢;exact two _ _ n1 hd
      · have h3 : rd L (rd w 1) + rd L (rd w 2) = 1:=by omega
        have E : doorsL L w = [[rd w 0,rd w 1],[rd w 1,rd w 2]]:=by simp [doorsL,edges,List.filter_cons,d1,d2,d3,h1,h2,h3]
        rw [E] at hd ⊢;exact two _ _ n2 hd
    · by_cases h2 : rd L (rd w 0) + rd L (rd w 2) = 1
      · have h3 : rd L (rd w 1) + rd L (rd w 2) = 1:=by omega
        have E : doorsL L w = [[rd w 0,rd w 2],[rd w 1,rd w 2]]:=by simp [doorsL,edges,List.filter_cons,d1,d2,d3,h1,h2,h3]
        rw [E] at hd ⊢;exact two _ _ n3 hd
      · have h3 : ¬ rd L (rd w 1) + rd L (rd w 2) = 1:=by omega
        have E : doorsL L w = []:=by simp [doorsL,edges,List.filter_cons,d1,d2,d3,h1,h2,h3]
        rw [E] at hd;cases hd
theorem Home.bey2 {c : Int} {d : List Int} (hc : Path.inC (n * n) c) (hd : doorAt n L c d) : beyAt n c d = -1 ∨ (Path.inC (n * n) (beyAt n c d)∧beyAt n c d≠c∧doorAt n L (beyAt n c d) d∧beyAt n (beyAt n c d) d = c):=by
    have a:=H.cell hc;unfold doorAt doorsL at hd;obtain ⟨he,hdr⟩:=List.mem_filter.1 hd;unfold okCell at a;simp only [Bool.and_eq_true] at a;have b:=List.all_eq_true.1 a.2 d he;have hn:=H.len;have hc':=hc;unfold Path.inC at hc';unfold beyAt bey;have here : ((c.toNat : Nat) : Int) = c:=by omega
    have door2 : ∀ q : Int,(edges ((cellsT n).getD q.toNat [])).contains d = true→doorAt n L q d:=fun q hq=>by
      unfold doorAt doorsL cl;exact List.mem_filter.2 ⟨List.contains_iff_mem.1 hq,hdr⟩
    revert b;generalize wth (cellsT n) (rd d 0) (rd d 1) = W;intro b;match W,b with
    | [p],b =>
      have e : p = c:=by have:=of_decide_eq_true b;omega
      exact .inl (by simp [fb,e])
    | [p,q],b =>
      simp only [Bool.or_eq_true,Bool.and_eq_true,decide_eq_true_eq] at b;rcases b with b|b
      · obtain ⟨⟨⟨⟨b1,b2⟩,b3⟩,b4⟩,b5⟩:=b
        have e1 : p = c:=by omega
        have e2 : q≠c:=by omega
        subst e1;have x1 : fb [p,q] p = q:=by simp [fb,e2]
        have x2 : fb [p,q] q = p:=by simp [fb,e2.symm]
        rw [x1,x2];exact .inr ⟨⟨b3,by omega⟩,e2,door2 q b5,rfl⟩
      · obtain ⟨⟨⟨⟨b1,b2⟩,b3⟩,b4⟩,b5⟩:=b
        have e1 : q = c:=by omega
        have e2 : p≠c:=by omega
        subst e1;have x1 : fb [p,q] q = p:=by simp [fb,e2]
        have x2 : fb [p,q] p = q:=by simp [fb,e2.symm]
        rw [x1,x2];exact .inr ⟨⟨b3,by omega⟩,e2,door2 p b5,rfl⟩
theorem Home.house : Path.House (beyAt n) (othAt n L) (fullAt n L) (doorAt n L) (n * n):=⟨fun c d hc hf hd=>H.oth2 hc hf hd,fun c d hc hd=>H.bey2 hc hd⟩
end
/-! ### walks -/
section
variable {n : Nat} {L : List Int} (H : Home n L) (c0 : Int) (d0 : List Int)
def at_ (n : Nat) (L : List Int) (c0 : Int) (d0 : List Int) (i : Nat) : Int × List Int:=Path.sq (beyAt n) (othAt n L) c0 d0 i
def vis (n : Nat) (L : List Int) (c0 : Int) (d0 : List Int) (k : Nat) : List Int:=(List.range k).map fun i=>(at_ n L c0 d0 i).1
theorem vis_len (k : Nat) : (vis n L c0 d0 k).length = k:=by unfold vis;rw [List.length_map,List.length_range]
theorem vis_succ (k : Nat) : vis n L c0 d0 (k + 1) = vis n L c0 d0 k ++ [(at_ n L c0 d0 k).1]:=by unfold vis;rw [List.range_succ,List.map_append];rfl
include H
theorem Home.other {a0 : Int} {B : List Int} {c : Int} (hc : Path.inC (n * n) c) {d : List Int} (hd : doorAt n L c d) : Ev (fun k=>impl_house_other.f k a0 L (cellsT n) B c d) (othAt n L c d):=by
  have r:=H.range hc;refine Ev.bind (idoors_ev H.lbl a0 (cellsT n) B r.1 r.2 (H.tri hc)) ?_;refine other_loop _ (Nat.le_trans (List.length_filter_le _ _) (by simp [edges])) (fun e he=>?_) d _ 0 (Nat.zero_add _);rw [H.two hc he];omega
theorem Home.bound {k : Nat} (hk : k ≤ n * n) : (vis n L c0 d0 k).length ≤ 64:=by rw [vis_len];exact Nat.le_trans hk H.nn
theorem Home.iwalk (b : Path.Begin (beyAt n) (fullAt n L) (doorAt n L) (n * n) c0 d0) {K : Nat} (hK : K ≤ n * n) (hw : ∀ i,i < K→0 ≤ (at_ n L c0 d0 i).1∧fullAt n L (at_ n L c0 d0 i).1 = false) (a0 : Int) (B : List Int) {r : List Int × List Int × Bool}
    (hr : Ev (fun k=>impl_house_walk.l0 k (at_ n L c0 d0 K).1 (at_ n L c0 d0 K).2 (vis n L c0 d0 K) a0 L (cellsT n) B) r) : ∀ j i,i + j = K→Ev (fun k=>impl_house_walk.l0 k (at_ n L c0 d0 i).1 (at_ n L c0 d0 i).2 (vis n L c0 d0 i) a0 L (cellsT n) B) r
  | 0,i,h=>by
    have : i = K:=h
    subst this
    exact hr
  | j + 1,i,h=>by
    obtain ⟨g1,_⟩:=Path.alive H.house b i (fun t ht=>(hw t (by omega)).1) (fun t ht=>(hw t (by omega)).2)
    obtain ⟨hc,hd⟩:=g1 i (Nat.le_refl _)
    obtain ⟨h0,hf⟩:=hw i (by omega)
    have rg:=H.range hc
    have bd:=H.bound c0 d0 (k:=i) (by omega)
    have ho:=(H.house.other _ _ hc hf hd).1
    have ih:=Home.iwalk b hK hw a0 B hr j (i + 1) (by omega)
    refine Ev.step (fun f=>impl_house_walk.l0.eq_2 ..) (ev_pos h0 (ev_pos (by omega) (ev_bind0 rfl (ev_bind0 (isFull_eq H.lbl a0 (cellsT n) B rg.1 rg.2 (H.tri hc)) (ev_neg ?_ (Ev.bind (H.other hc hd) (Ev.bind (beyond_ev H.lenC H.three a0 L B _ (H.two hc ho)) ?_)))))))
    · intro e
      have : fullAt n L (at_ n L c0 d0 i).1 = true:=e
      rw [hf] at this;cases this
    · rw [← vis_succ];exact ih
theorem Home.sl1 {c : Int} (hc : Path.inC (n * n) c) {d : List Int} {acc : List Int} {r : List Int × List Int} (E : List (List Int)) (hE : E.length ≤ 1000) (he : ∀ e ∈ E,e.length = 2) : ∀ q i : Nat,i + q = E.length→(∃ e ∈ E.drop i,e≠d) →
    Ev (fun k=>spec_doWalk.l0 k (cellsT n) L (fo (E.drop i) d) (beyAt n c (fo (E.drop i) d)) acc) r→Ev (fun k=>spec_doWalk.l1 k (cellsT n) L d c acc E (E.length : Int) (i : Int)) r
  | 0,i,h,⟨e,hm,_⟩,_=>by rw [List.drop_eq_nil_of_le (by omega)] at hm;cases hm
  | q + 1,i,h,hm,hr=>by
    have hlt : i < E.length:=by omega
    have er : rd_L1 E (i : Int) = E[i]:=by unfold rd_L1;rw [Int.toNat_natCast,List.getD_eq_getElem?_getD,List.getElem?_eq_getElem hlt];rfl
    have hl:=he _ (List.getElem_mem hlt)
    rw [List.drop_eq_getElem_cons hlt] at hm hr
    rw [fo] at hr
    refine Ev.step (fun f=>spec_doWalk.l1.eq_2 ..) (ev_pos (by omega) (ev_pos (by omega) (ev_pos (by omega) ?_)))
    rw [er,wr (by omega) (by omega)]
    refine Ev.bind (same_ev _ _ (by omega)) ?_
    by_cases e : E[i] = d
    · rw [if_pos e] at hr
      refine ev_pos (decide_eq_true e) (Home.sl1 hc E hE he q (i + 1) (by omega) ?_ hr)
      obtain ⟨e',hm,hne⟩:=hm
      rcases List.mem_cons.1 hm with e2|e2
      · exact absurd (e2.trans e) hne
      · exact ⟨e',e2,hne⟩
    · rw [if_neg e] at hr
      exact ev_neg (by rw [decide_eq_false e];decide) (Ev.bind (nextR_ev H.lenC H.three c hl) hr)
theorem Home.swalk (b : Path.Begin (beyAt n) (fullAt n L) (doorAt n L) (n * n) c0 d0) {K : Nat} (hK : K ≤ n * n) (hw : ∀ i,i < K→0 ≤ (at_ n L c0 d0 i).1∧fullAt n L (at_ n L c0 d0 i).1 = false) {r : List Int × List Int}
    (hr : Ev (fun k=>spec_doWalk.l0 k (cellsT n) L (at_ n L c0 d0 K).2 (at_ n L c0 d0 K).1 (vis n L c0 d0 K)) r) : ∀ j i,i + j = K→Ev (fun k=>spec_doWalk.l0 k (cellsT n) L (at_ n L c0 d0 i).2 (at_ n L c0 d0 i).1 (vis n L c0 d0 i)) r
  | 0,i,h=>by
    have : i = K:=h
    subst this
    exact hr
  | j + 1,i,h=>by
    obtain ⟨g1,_⟩:=Path.alive H.house b i (fun t ht=>(hw t (by omega)).1) (fun t ht=>(hw t (by omega)).2)
    obtain ⟨hc,hd⟩:=g1 i (Nat.le_refl _)
    obtain ⟨h0,hf⟩:=hw i (by omega)
    have rg:=H.range hc
    have bd:=H.bound c0 d0 (k:=i) (by omega)
    obtain ⟨o1,o2,o3⟩:=H.house.other _ _ hc hf hd
    have ih:=Home.swalk b hK hw hr j (i + 1) (by omega)
    have ec : rd_L1 (cellsT n) (at_ n L c0 d0 i).1 = cl n (at_ n L c0 d0 i).1:=rfl
    have hlen:=H.len
    have hvl : (vis n L c0 d0 i).length = i:=vis_len c0 d0 i
    refine Ev.step (fun f=>spec_doWalk.l0.eq_2 ..) (ev_pos h0 ?_)
    refine Ev.step (fun f=>spec_doWalk.j1.eq_2 ..) (ev_pos (decide_eq_true (by omega)) (ev_pos (by omega) (ev_bind0 rfl (ev_pos h0 (ev_pos rg.2 ?_)))))
    rw [ec]
    refine Ev.bind (doFull_ev H.lbl (H.tri hc)) (ev_neg ?_ (Ev.bind (sdoors_ev H.lbl (H.tri hc)) ?_))
    · intro e
      have : fullAt n L (at_ n L c0 d0 i).1 = true:=e
      rw [hf] at this;cases this
    · refine H.sl1 hc _ (Nat.le_trans (List.length_filter_le _ _) (by simp [edges])) (fun e he=>H.two hc he) _ 0 (Nat.zero_add _) ⟨_,o1,o2⟩ ?_
      rw [← vis_succ];exact ih
/-- Both walks. -/
theorem Home.walks (b : Path.Begin (beyAt n) (fullAt n L) (doorAt n L) (n * n) c0 d0) : ∃ K,K ≤ n * n∧(∀ i,i < K→0 ≤ (at_ n L c0 d0 i).1∧fullAt n L (at_ n L c0 d0 i).1 = false) ∧
    (((at_ n L c0 d0 K).1 < 0∧(∀ a0 B,Ev (fun k=>impl_house_walk.f k a0 L (cellsT n) B c0 d0) (vis n L c0 d0 K,(at_ n L c0 d0 K).2,false))∧Ev (fun k=>spec_doWalk.f k (cellsT n) L d0 c0) (vis n L c0 d0 K,(at_ n L c0 d0 K).2)) ∨
     (Path.inC (n * n) (at_ n L c0 d0 K).1∧fullAt n L (at_ n L c0 d0 K).1 = true∧(∀ a0 B,Ev (fun k=>impl_house_walk.f k a0 L (cellsT n) B c0 d0) (vis n L c0 d0 (K + 1),(at_ n L c0 d0 K).2,true))∧Ev (fun k=>spec_doWalk.f k (cellsT n) L d0 c0) (vis n L c0 d0 (K + 1),(at_ n L c0 d0 K).2))):=by
  obtain ⟨K,hK,hw,he⟩:=Path.ends H.house b;refine ⟨K,hK,hw,?_⟩;have bd:=H.bound c0 d0 hK;have hlen:=H.len;have hvl : (vis n L c0 d0 K).length = K:=vis_len c0 d0 K;rcases he with he|⟨he,hf⟩
  · refine .inl ⟨he,fun a0 B=>?_,?_⟩
    · refine H.iwalk c0 d0 b hK hw a0 B ?_ K 0 (by omega)
      exact Ev.step (fun f=>impl_house_walk.l0.eq_2 ..) (ev_neg (by unfold at_;omega) (Ev.now _))
    · refine H.swalk c0 d0 b hK hw ?_ K 0 (by omega)
      refine Ev.step (fun f=>spec_doWalk.l0.eq_2 ..) (ev_neg (by unfold at_;omega) ?_);exact Ev.step (fun f=>spec_doWalk.j1.eq_2 ..) (ev_neg (by decide) (Ev.now _))
  · obtain ⟨g1,_⟩:=Path.alive H.house b K (fun t ht=>by
      rcases Nat.lt_or_ge t K with h|h
      · exact (hw t h).1
      · have : t = K:=by omega
        subst this;exact he) (fun t ht=>(hw t ht).2)
    obtain ⟨hc,hd⟩:=g1 K (Nat.le_refl _);have rg:=H.range hc;have h0 : (at_ n L c0 d0 K).1 ≥ 0:=he;refine .inr ⟨hc,hf,fun a0 B=>?_,?_⟩
    · refine H.iwalk c0 d0 b hK hw a0 B ?_ K 0 (by omega)
      refine Ev.step (fun f=>impl_house_walk.l0.eq_2 ..) (ev_pos h0 (ev_pos (by omega) (ev_bind0 rfl (ev_bind0 (isFull_eq H.lbl a0 (cellsT n) B rg.1 rg.2 (H.tri hc)) (ev_pos hf ?_)))));rw [vis_succ];exact Ev.now _
    · refine H.swalk c0 d0 b hK hw ?_ K 0 (by omega)
      have ec : rd_L1 (cellsT n) (at_ n L c0 d0 K).1 = cl n (at_ n L c0 d0 K).1:=rfl;refine Ev.step (fun f=>spec_doWalk.l0.eq_2 ..) (ev_pos h0 ?_);refine Ev.step (fun f=>spec_doWalk.j1.eq_2 ..) (ev_pos (decide_eq_true (by omega)) (ev_pos (by omega) (ev_bind0 rfl (ev_pos h0 (ev_pos rg.2 ?_)))));have hff : Ev (fun k=>spec_doFull.f k L (cl n (at_ n L c0 d0 K).1)) (fullL L (cl n (at_ n L c0 d0 K).1)):=doFull_ev H.lbl (H.tri hc);refine Ev.bind hff (ev_pos hf ?_);rw [vis_succ];exact Ev.now _
end
end Go.Proofs.Ytcecimigkndakab.QFnExactFairCut
/-! Labels that are taken make a house. -/
namespace Go.Proofs.Ytcecimigkndakab.QFnExactFairCut
open Go.RowKit Go.Proofs.Ytcecimigkndakab.PFnExactFairCut Go.Proofs.YtcecimigkndakabW.PrintWords Go.Proofs.YtcecimigkndakabW.PrintLast Go.Proofs.YtcecimigkndakabW.PrintMore
set_option linter.unusedVariables false
set_option linter.unusedSimpArgs false
set_option maxRecDepth 100000
theorem cnt_tab : ((List.range 9).all fun n=>n == 0 || decide (cnt (n : Int) = (many n : Int))) = true:=by decide +kernel
/-- Labels that are taken. -/
theorem home_of {a : Int} {l : List Int} (h : labB a l = true) : ∃ n : Nat,a = (n : Int)∧Home n l:=by
  unfold labB at h;simp only [Bool.and_eq_true,decide_eq_true_eq] at h;obtain ⟨⟨h1,h2⟩,h3,h4⟩:=h;have e : a = ((a.toNat : Nat) : Int):=by omega
  have s : Side a.toNat:=⟨by omega,by omega⟩;refine ⟨a.toNat,e,s,?_⟩;rw [e] at h3;have c:=of_decide_eq_true (s.tab cnt_tab);exact lbl_of (by omega) (by have:=many_le s.hi;omega) h4
theorem last_rd (vs : List Int) (x : Int) (h : vs.length ≤ 64) : wrap64 (((vs ++ [x]).length : Int) - 1) = (vs.length : Int)∧rd (vs ++ [x]) (vs.length : Int) = x:=by
  have e : ((vs ++ [x]).length : Int) = (vs.length : Int) + 1:=by simp
  refine ⟨by rw [e,wr (by omega) (by omega)];omega,?_⟩;rw [rd_at (by simp)];simp
end Go.Proofs.Ytcecimigkndakab.QFnExactFairCut
/-! Doors of the border; what the program's and the reference's walk tell that come in at one. -/
namespace Go.Proofs.Ytcecimigkndakab.QFnExactFairCut
open Go.RowKit Go.Proofs.Ytcecimigkndakab.PFnExactFairCut Go.Proofs.YtcecimigkndakabW.PrintWords Go.Proofs.YtcecimigkndakabW.PrintLast Go.Proofs.YtcecimigkndakabW.PrintMore
set_option linter.unusedVariables false
set_option linter.unusedSimpArgs false
set_option maxRecDepth 100000
def step (B : List Int) (t : Nat) : List Int:=[rd B (t : Int),rd B (Int.ofNat ((t + 1) % B.length))]
theorem stepsT_eq (B : List Int) : stepsT B = (List.range B.length).map (step B):=rfl
theorem steps_loop (a0 : Int) (L : List Int) (C : List (List Int)) (B : List Int) (hB : B.length ≤ 1000) : ∀ d i : Nat,i + d = B.length→Ev (fun k=>impl_house_steps.l0 k ((List.range i).map (step B)) B (B.length : Int) (i : Int) a0 L C B) (stepsT B)
  | 0,i,h=>Ev.step (fun f=>impl_house_steps.l0.eq_2 ..) (ev_neg (by omega) (ev_eq (Ev.now _) (by rw [stepsT_eq,show i = B.length from h])))
  | d + 1,i,h=>by
    have ih:=steps_loop a0 L C B hB d (i + 1) (by omega)
    have ht : Int.tmod (wrap64 ((i : Int) + 1)) (B.length : Int) = Int.ofNat ((i + 1) % B.length):=by rw [wr (by omega) (by omega)];rfl
    have hm:=Nat.mod_lt (i + 1) (show B.length > 0 by omega)
    refine Ev.step (fun f=>impl_house_steps.l0.eq_2 ..) (ev_pos (by omega) (ev_pos (by omega) (ev_pos (by omega) (ev_neg (by omega) ?_))))
    rw [ht]
    refine ev_pos (Int.natCast_nonneg _) (ev_pos (Int.ofNat_lt.2 hm) (ev_pos (by rw [List.length_map,List.length_range];omega) ?_))
    rw [wr (by omega) (by omega)]
    rw [List.range_succ,List.map_append] at ih
    exact ih
section
variable {n : Nat} {L : List Int} (H : Home n L)
include H
theorem Home.lenB : (bordT n).length ≤ 24:=by rw [H.side.geo.2.1];have:=H.side.hi;omega
theorem Home.step {s : List Int} (hs : s ∈ stepsT (bordT n)) : ∃ x y,s = [x,y]∧(0 ≤ x∧x < (many n : Int))∧(0 ≤ y∧y < (many n : Int)):=by
  have a:=H.side.geo.2.2.2 s hs;rw [stepsT_eq] at hs;obtain ⟨t,_,e⟩:=List.mem_map.1 hs;unfold okStep at a;simp only [Bool.and_eq_true,decide_eq_true_eq] at a;refine ⟨rd s 0,rd s 1,?_,⟨a.1.1.1.1,a.1.1.1.2⟩,⟨a.1.1.2,a.1.2⟩⟩;rw [← e];rfl
theorem Home.steps_ev (a0 : Int) (C : List (List Int)) : Ev (fun k=>impl_house_steps.f k a0 L C (bordT n)) (stepsT (bordT n)) :=
  steps_loop a0 L C (bordT n) (Nat.le_trans H.lenB (by decide)) (bordT n).length 0 (Nat.zero_add _)
/-- The doors of the border. -/
def gates (n : Nat) (L : List Int) : List (List Int):=(stepsT (bordT n)).filter (dr L)
theorem Home.entry (a0 : Int) (C : List (List Int)) (B : List Int) {s : List Int} (hs : s ∈ stepsT (bordT n)) : impl_house_entries_1.f s [(⟨a0,L,C,B⟩ : S62)] = some (!dr L s):=by
  obtain ⟨x,y,e,hx,hy⟩:=H.step hs;subst e;have hd:=isDoor_eq H.lbl a0 C B hx hy;unfold impl_house_entries_1.f;rw [if_pos (by simp),if_pos (by simp),if_pos (by simp)];show (impl_house_isDoor.f a0 L C B x y).bind _ = _;rw [hd];rfl
theorem Home.entries_ev (a0 : Int) (C : List (List Int)) : Ev (fun k=>impl_house_entries.f k a0 L C (bordT n)) (gates n L):=by
  refine Ev.bind (H.steps_ev a0 C) (ev_pos ?_ (ev_eq (Ev.now _) ?_))
  · rw [Bool.and_eq_true,decide_eq_true_eq]
    refine ⟨List.all_eq_true.2 fun s hs=>by rw [H.entry a0 C (bordT n) hs];rfl,?_⟩;rw [stepsT_eq,List.length_map,List.length_range];have:=H.lenB;omega
  · unfold gates
    refine List.filter_congr fun s hs=>?_
    unfold impl_house_entries.q;rw [H.entry a0 C (bordT n) hs];cases dr L s <;> rfl
theorem Home.border_loop : ∀ d i : Nat,i + d = (bordT n).length→Ev (fun k=>spec_doBorder.l0 k L (bordT n) (((List.range i).map (QFnExactFairCut.step (bordT n))).filter (dr L)) (bordT n) ((bordT n).length : Int) (i : Int)) (gates n L)
  | 0,i,h=>Ev.step (fun f=>spec_doBorder.l0.eq_2 ..) (ev_neg (by omega) (ev_eq (Ev.now _) (by unfold gates;rw [stepsT_eq,show i = (bordT n).length from h])))
  | d + 1,i,h=>by
    have ih:=Home.border_loop d (i + 1) (by omega)
    have hB:=H.lenB
    have ht : Int.tmod (wrap64 ((i : Int) + 1)) ((bordT n).length : Int) = Int.ofNat ((i + 1) % (bordT n).length):=by rw [wr (by omega) (by omega)];rfl
    have hm:=Nat.mod_lt (i + 1) (show (bordT n).length > 0 by omega)
    have hst : QFnExactFairCut.step (bordT n) i ∈ stepsT (bordT n):=by rw [stepsT_eq];exact List.mem_map_of_mem (List.mem_range.2 (by omega))
    obtain ⟨x,y,e,hx,hy⟩:=H.step hst
    have e1 : rd (bordT n) (i : Int) = x:=by
      have:=congrArg (fun l : List Int=>rd l 0) e;exact this
    have e2 : rd (bordT n) (Int.ofNat ((i + 1) % (bordT n).length)) = y:=by
      have:=congrArg (fun l : List Int=>rd l 1) e;exact this
    have hf:=List.length_filter_le (dr L) ((List.range i).map (QFnExactFairCut.step (bordT n)));rw [List.length_map,List.length_range] at hf;refine Ev.step (fun f=>spec_doBorder.l0.eq_2 ..) (ev_pos (by omega) (ev_pos (by omega) (ev_pos (by omega) (ev_neg (by omega) ?_))));rw [ht];refine ev_pos (Int.natCast_nonneg _) (ev_pos (Int.ofNat_lt.2 hm) ?_);rw [e1,e2,wr (by omega) (by omega)];rw [List.range_succ,List.map_append,List.filter_append,List.map_singleton,e,List.filter_cons,List.filter_nil] at ih;refine ev_bind0 (doDoor_eq H.lbl hx hy) ?_;by_cases hd : dr L [x,y] = true
    · rw [if_pos hd] at ih
      exact ev_pos hd (ev_pos (by omega) ih)
    · rw [if_neg hd,List.append_nil] at ih
      exact ev_neg hd ih
theorem Home.border_ev : Ev (fun k=>spec_doBorder.f k (n : Int) L) (gates n L) :=
  Ev.bind H.side.bordS (H.border_loop (bordT n).length 0 (Nat.zero_add _))
omit H in
theorem dr_inner (L : List Int) (s : List Int) : dr L (inner s) = dr L s:=by
  have e0 : rd (inner s) 0 = mn (rd s 0) (rd s 1):=rfl;have e1 : rd (inner s) 1 = mx (rd s 0) (rd s 1):=rfl;unfold dr;rw [e0,e1,decide_eq_decide];unfold mn mx;by_cases h : rd s 1 < rd s 0
  · rw [if_pos h,if_neg (by omega)];omega
  · by_cases h2 : rd s 0 < rd s 1
    · rw [if_neg h,if_pos h2]
    · rw [if_neg h,if_neg h2,show rd s 1 = rd s 0 by omega]
theorem Home.begin {s : List Int} (hs : s ∈ gates n L) : 0 ≤ beyAt n (-1) (inner s)∧Path.Begin (beyAt n) (fullAt n L) (doorAt n L) (n * n) (beyAt n (-1) (inner s)) (inner s):=by
  obtain ⟨hs,hd⟩:=List.mem_filter.1 hs;have a:=H.side.geo.2.2.2 s hs;unfold okStep at a;simp only [Bool.and_eq_true] at a;have b:=a.2;have hlen:=H.len;revert b;unfold beyAt bey;generalize hW : wth (cellsT n) (rd (inner s) 0) (rd (inner s) 1) = W;intro b;match W,b,hW with
  | [p],b,hW =>
    simp only [Bool.and_eq_true,decide_eq_true_eq] at b;obtain ⟨⟨b1,b2⟩,b3⟩:=b;have x1 : fb [p] (-1) = p:=by simp [fb];omega
    rw [x1];refine ⟨b1,fun _=>⟨⟨b1,by omega⟩,?_⟩,fun _=>.inl (by show fb (wth (cellsT n) (rd (inner s) 0) (rd (inner s) 1)) p = -1;rw [hW];unfold fb;rw [if_pos rfl];rfl)⟩;unfold doorAt doorsL cl;exact List.mem_filter.2 ⟨List.contains_iff_mem.1 b3,by rw [dr_inner];exact hd⟩
omit H in
theorem doInner_eq (x y : Int) : spec_doInner.f x y = some [mn x y,mx x y]:=by
  unfold spec_doInner.f spec_l1Least.f spec_l1Most.f mn mx;by_cases h : x < y
  · rw [if_pos h,if_neg (by omega),if_neg (by omega),if_pos h];rfl
  · by_cases h2 : y < x
    · rw [if_neg h,if_pos h2,if_pos h2,if_neg h];rfl
    · rw [if_neg h,if_neg h2,if_neg h2,if_neg h,show x = y by omega];rfl
/-- Both walks in at a door of the border. -/
theorem Home.enter {s : List Int} (hs : s ∈ gates n L) {p q : Int} (hpq : [mn p q,mx p q] = inner s) : ∃ vs x dd b,vs.length ≤ 64∧Path.inC (n * n) x∧fullAt n L x = b∧(∀ a0 B,Ev (fun k=>impl_house_enter.f k a0 L (cellsT n) B p q) (vs ++ [x],dd,b))∧Ev (fun k=>spec_doFrom.f k (n : Int) L p q) (vs ++ [x],dd):=by
  have hpI : impl_sorted.f p q = some (inner s):=by rw [← hpq];rfl
  have hpS : spec_doInner.f p q = some (inner s):=by rw [← hpq];exact doInner_eq p q
  obtain ⟨h0,hb⟩:=H.begin hs;have hin : (inner s).length = 2:=rfl
  have lift : ∀ r : List Int × List Int × Bool,(∀ a0 B,Ev (fun k=>impl_house_walk.f k a0 L (cellsT n) B (beyAt n (-1) (inner s)) (inner s)) r)→∀ a0 B,Ev (fun k=>impl_house_enter.f k a0 L (cellsT n) B p q) r:=fun r hr a0 B =>
    ev_bind0 hpI (Ev.bind (beyond_ev H.lenC H.three a0 L B (-1) (d:=inner s) hin) (Ev.bind (hr a0 B) (Ev.now _)))
  have lift2 : ∀ r : List Int × List Int,Ev (fun k=>spec_doWalk.f k (cellsT n) L (inner s) (beyAt n (-1) (inner s))) r→Ev (fun k=>spec_doFrom.f k (n : Int) L p q) r:=fun r hr =>
    Ev.bind H.side.cellsS (ev_bind0 hpS (ev_bind0 hpS (Ev.bind (nextR_ev H.lenC H.three (-1) (d:=inner s) hin) (Ev.bind hr (Ev.now _)))))
  obtain ⟨K,hK,hw,he⟩:=H.walks _ _ hb;have bd:=fun k (hk : k ≤ n * n)=>H.bound (beyAt n (-1) (inner s)) (inner s) hk
  rcases he with ⟨he,hi,hsp⟩|⟨hc,hf,hi,hsp⟩
  · cases K with
    | zero=>exact absurd h0 (by have : (at_ n L (beyAt n (-1) (inner s)) (inner s) 0).1 = beyAt n (-1) (inner s):=rfl;omega)
    | succ K =>
      rw [vis_succ] at hi hsp;obtain ⟨g1,_⟩:=Path.alive H.house hb K (fun t ht=>(hw t (by omega)).1) (fun t ht=>(hw t (by omega)).2);exact ⟨_,_,_,_,bd K (by omega),(g1 K (Nat.le_refl _)).1,(hw K (by omega)).2,lift _ hi,lift2 _ hsp⟩
  · rw [vis_succ] at hi hsp
    exact ⟨_,_,_,_,bd K hK,hc,hf,lift _ hi,lift2 _ hsp⟩
end
end Go.Proofs.Ytcecimigkndakab.QFnExactFairCut
/-! FindFull of the program returns what the reference's returns. -/
namespace Go.Proofs.Ytcecimigkndakab.QFnExactFairCut
open Go.RowKit Go.Proofs.Ytcecimigkndakab.PFnExactFairCut Go.Proofs.YtcecimigkndakabW.PrintWords Go.Proofs.YtcecimigkndakabW.PrintLast Go.Proofs.YtcecimigkndakabW.PrintMore
set_option linter.unusedVariables false
theorem find_loops {n : Nat} {L : List Int} (H : Home n L) (a0 : Int) (B : List Int) : ∀ d i : Nat,i + d = (gates n L).length→∃ r,Ev (fun k=>impl_FindFull.l0 k (gates n L) ((gates n L).length : Int) (i : Int) a0 L (cellsT n) B) r∧Ev (fun k=>spec_FindFull.l0 k (n : Int) L (cellsT n) (gates n L) ((gates n L).length : Int) (i : Int)) r
  | 0,i,h=>⟨(0,false),Ev.step (fun f=>impl_FindFull.l0.eq_2 ..) (ev_neg (by omega) (Ev.now _)),Ev.step (fun f=>spec_FindFull.l0.eq_2 ..) (ev_neg (by omega) (Ev.now _))⟩
  | d + 1,i,h=>by
    have hlt : i < (gates n L).length:=by omega
    have hg : (gates n L).length ≤ 24:=by
      refine Nat.le_trans (List.length_filter_le _ _) ?_;rw [stepsT_eq,List.length_map,List.length_range];exact H.lenB
    have er : rd_L1 (gates n L) (i : Int) = (gates n L)[i]:=by unfold rd_L1;rw [Int.toNat_natCast,List.getD_eq_getElem?_getD,List.getElem?_eq_getElem hlt];rfl
    have hm:=List.getElem_mem hlt;obtain ⟨x',y',e,_,_⟩:=H.step (List.mem_filter.1 hm).1;obtain ⟨vs,x,dd,b,hv,hx,hf,hi,hs⟩:=H.enter hm (p:=rd (gates n L)[i] 0) (q:=rd (gates n L)[i] 1) rfl;obtain ⟨l1,l2⟩:=last_rd vs x hv;have hrg:=H.range hx;have hlen : (gates n L)[i].length = 2:=by rw [e];rfl
    obtain ⟨r,r1,r2⟩:=find_loops H a0 B d (i + 1) (by omega)
    have ev1 : ∀ {s : Int × Bool},(b = true→s = (x,true))→(b = false→s = r)→Ev (fun k=>impl_FindFull.l0 k (gates n L) ((gates n L).length : Int) (i : Int) a0 L (cellsT n) B) s:=fun {s} h1 h2=>by
      refine Ev.step (fun f=>impl_FindFull.l0.eq_2 ..) (ev_pos (by omega) (ev_pos (by omega) (ev_pos (by omega) ?_)));rw [er];refine ev_pos (by omega) (ev_pos (by omega) (Ev.bind (hi a0 B) ?_));show Ev (fun k=>if b = true then _ else _) s;cases hb : b with
      | true =>
        refine ev_pos rfl ?_;rw [l1,l2,h1 hb];exact ev_pos (by omega) (ev_pos (by rw [List.length_append,List.length_singleton];omega) (Ev.now _))
      | false =>
        refine ev_neg (by decide) ?_;rw [wr (by omega) (by omega),h2 hb];exact r1
    have ev2 : ∀ {s : Int × Bool},(b = true→s = (x,true))→(b = false→s = r)→Ev (fun k=>spec_FindFull.l0 k (n : Int) L (cellsT n) (gates n L) ((gates n L).length : Int) (i : Int)) s:=fun {s} h1 h2=>by
      refine Ev.step (fun f=>spec_FindFull.l0.eq_2 ..) (ev_pos (by omega) (ev_pos (by omega) (ev_pos (by omega) ?_)));rw [er];refine ev_pos (by omega) (ev_pos (by omega) (Ev.bind hs ?_));have ec : rd_L1 (cellsT n) x = cl n x:=rfl;have hff : Ev (fun k=>spec_doFull.f k L (cl n x)) b:=by rw [← hf];exact doFull_ev H.lbl (H.tri hx)
      rw [l1,l2,ec];refine ev_pos (by omega) (ev_pos (by rw [List.length_append,List.length_singleton];omega) (ev_pos hrg.1 (ev_pos hrg.2 (Ev.bind hff ?_))));cases hb : b with
      | true =>
        rw [h1 hb];exact ev_pos rfl (Ev.now _)
      | false =>
        refine ev_neg (by decide) ?_;rw [wr (by omega) (by omega),h2 hb];exact r2
    cases hb : b with
    | true=>exact ⟨(x,true),ev1 (fun _=>rfl) (fun z=>by rw [hb] at z;cases z),ev2 (fun _=>rfl) (fun z=>by rw [hb] at z;cases z)⟩
    | false=>exact ⟨r,ev1 (fun z=>by rw [hb] at z;cases z) (fun _=>rfl),ev2 (fun z=>by rw [hb] at z;cases z) (fun _=>rfl)⟩
theorem find_both (a0 : Int) (l : List Int) (hl : l.length ≤ 1048576) : ∃ r,Ev (fun k=>impl_FindFull.f k a0 l) r∧Ev (fun k=>spec_FindFull.f k a0 l) r:=by
  have h1:=labels_impl a0 l hl;have h2:=labels_spec a0 l hl;cases hk : labB a0 l with
  | false =>
    rw [hk] at h1 h2;exact ⟨(0,false),Ev.bind (Ev.bind h1 (ev_neg (by decide) (Ev.now _))) (ev_neg (by decide) (Ev.now _)),Ev.bind h2 (ev_neg (by decide) (Ev.now _))⟩
  | true =>
    rw [hk] at h1 h2;obtain ⟨n,e,H⟩:=home_of hk;subst e;obtain ⟨r,r1,r2⟩:=find_loops H (n : Int) (bordT n) (gates n l).length 0 (Nat.zero_add _)
    exact ⟨r,Ev.bind (Ev.bind h1 (ev_pos rfl (Ev.bind H.side.cellsI (Ev.bind H.side.bordI (Ev.now _))))) (ev_pos rfl (Ev.bind (H.entries_ev (n : Int) (cellsT n)) r1)),
      Ev.bind h2 (ev_pos rfl (Ev.bind H.side.cellsS (Ev.bind H.border_ev r2)))⟩
end Go.Proofs.Ytcecimigkndakab.QFnExactFairCut
/-! Cakes: tastes, pieces, favourites and labels of the program and of the reference. -/
namespace Go.Proofs.Ytcecimigkndakab.QFnExactFairCut
open Go.RowKit Go.Proofs.Ytcecimigkndakab.PFnExactFairCut Go.Proofs.YtcecimigkndakabW.PrintWords Go.Proofs.YtcecimigkndakabW.PrintLast Go.Proofs.YtcecimigkndakabW.PrintMore
set_option linter.unusedVariables false
set_option linter.unusedSimpArgs false
set_option maxRecDepth 100000
theorem row_at {G : List (List Int)} {i : Nat} (h : i < G.length) : rd_L1 G (i : Int) = G[i]:=by
  unfold rd_L1;rw [Int.toNat_natCast,List.getD_eq_getElem?_getD,List.getElem?_eq_getElem h];rfl
/-! ### tastes -/
def nineB (l : List Int) : Bool:=l.all fun x=>decide (0 ≤ x∧x ≤ 9)
theorem nine_loop (l : List Int) (hl : l.length ≤ 1048576) : ∀ d i : Nat,i + d = l.length→Ev (fun k=>spec_l1All.l0 k 0 9 l (l.length : Int) (i : Int)) (nineB (l.drop i))
  | 0,i,h=>Ev.step (fun f=>spec_l1All.l0.eq_2 ..) (ev_neg (by omega) (ev_eq (Ev.now _) (by rw [List.drop_eq_nil_of_le (by omega)];rfl)))
  | d + 1,i,h=>by
    have hlt : i < l.length:=by omega
    refine Ev.step (fun f=>spec_l1All.l0.eq_2 ..) (ev_pos (by omega) (ev_pos (by omega) (ev_pos (by omega) (ev_bind0 (in_spec _ _ _) ?_))))
    unfold nineB
    rw [List.drop_eq_getElem_cons hlt,List.all_cons,rd_at hlt,wr (show -9223372036854775808 ≤ (i : Int) + 1 by omega) (by omega)]
    by_cases hc : 0 ≤ l[i]∧l[i] ≤ 9
    · rw [decide_eq_true hc,Bool.true_and]
      exact ev_pos rfl (nine_loop l hl d (i + 1) (by omega))
    · rw [decide_eq_false hc,Bool.false_and]
      exact ev_neg (by decide) (Ev.now _)
theorem nine_one (x : Int) : impl_areLists_1_1.f x [9] = some (!decide (0 ≤ x∧x ≤ 9)):=by
  unfold impl_areLists_1_1.f;rw [if_pos (by simp),show rd [(9 : Int)] 0 = 9 from rfl,in_impl];rfl
theorem nine_index (l : List Int) (hl : l.length ≤ 1048576) : ∀ d i : Nat,i + d = l.length→∃ r : Int,Ev (fun k=>slices_IndexFunc_int_int__impl_areLists_1_1.l0 k l (l.length : Int) (i : Int) [9]) r∧decide (r ≥ 0) = !nineB (l.drop i)
  | 0,i,h=>⟨-1,Ev.step (fun f=>slices_IndexFunc_int_int__impl_areLists_1_1.l0.eq_2 ..) (ev_neg (by omega) (Ev.now _)),by rw [List.drop_eq_nil_of_le (by omega)];rfl⟩
  | d + 1,i,h=>by
    have hlt : i < l.length:=by omega
    by_cases hc : 0 ≤ l[i]∧l[i] ≤ 9
    · obtain ⟨r,h1,h2⟩:=nine_index l hl d (i + 1) (by omega)
      refine ⟨r,Ev.step (fun f=>slices_IndexFunc_int_int__impl_areLists_1_1.l0.eq_2 ..) (ev_pos (by omega) (ev_pos (by omega) (ev_pos (by omega) (ev_bind0 (nine_one _) (ev_neg (by rw [rd_at hlt,decide_eq_true hc];decide) ?_))))),?_⟩
      · rw [wr (by omega) (by omega)];exact h1
      · rw [h2]
        unfold nineB
        rw [List.drop_eq_getElem_cons hlt,List.all_cons,decide_eq_true hc,Bool.true_and]
    · refine ⟨i,Ev.step (fun f=>slices_IndexFunc_int_int__impl_areLists_1_1.l0.eq_2 ..) (ev_pos (by omega) (ev_pos (by omega) (ev_pos (by omega) (ev_bind0 (nine_one _) (ev_pos (by rw [rd_at hlt,decide_eq_false hc];rfl) (Ev.now _)))))),?_⟩
      unfold nineB
      rw [List.drop_eq_getElem_cons hlt,List.all_cons,decide_eq_false hc,Bool.false_and,decide_eq_true (by omega)]
      rfl
theorem nine_ev (l : List Int) (hl : l.length ≤ 1048576) : Ev (fun k=>slices_ContainsFunc_int_int__impl_areLists_1_1.f k l [9]) (!nineB l):=by
  obtain ⟨r,h1,h2⟩:=nine_index l hl l.length 0 (by omega);rw [List.drop_zero] at h2;exact Ev.bind h1 (ev_eq (Ev.now _) h2)
/-- Is this a taste for a side? -/
def rowB (a : Int) (l : List Int) : Bool:=decide ((l.length : Int) = a) && nineB l
theorem taste_one (a : Int) (l : List Int) (hl : l.length ≤ 1048576) : Ev (fun k=>impl_areLists_1.f k l [a] [9]) (!rowB a l):=by
  refine ev_pos (by simp) ?_;rw [show rd [a] 0 = a from rfl];unfold rowB;by_cases h : (l.length : Int) = a
  · rw [decide_eq_true h,Bool.true_and]
    exact ev_pos h (Ev.bind (nine_ev l hl) (Ev.now _))
  · rw [decide_eq_false h]
    exact ev_neg h (Ev.now _)
theorem taste_index (a : Int) (T : List (List Int)) (hT : T.length ≤ 1048576) (hr : ∀ t ∈ T,t.length ≤ 1048576) : ∀ d i : Nat,i + d = T.length→∃ r : Int,Ev (fun k=>slices_IndexFunc_int_int__impl_areLists_1.l0 k T (T.length : Int) (i : Int) [a] [9]) r∧decide (r ≥ 0) = !(T.drop i).all (rowB a)
  | 0,i,h=>⟨-1,Ev.step (fun f=>slices_IndexFunc_int_int__impl_areLists_1.l0.eq_2 ..) (ev_neg (by omega) (Ev.now _)),by rw [List.drop_eq_nil_of_le (by omega)];rfl⟩
  | d + 1,i,h=>by
    have hlt : i < T.length:=by omega
    have ho:=taste_one a T[i] (hr _ (List.getElem_mem hlt))
    rw [List.drop_eq_getElem_cons hlt,List.all_cons]
    cases hc : rowB a T[i] with
    | true =>
      rw [hc] at ho
      obtain ⟨r,h1,h2⟩:=taste_index a T hT hr d (i + 1) (by omega)
      refine ⟨r,Ev.step (fun f=>slices_IndexFunc_int_int__impl_areLists_1.l0.eq_2 ..) (ev_pos (by omega) (ev_pos (by omega) (ev_pos (by omega) ?_))),by rw [h2,Bool.true_and]⟩
      rw [row_at hlt,wr (by omega) (by omega)]
      exact Ev.bind ho (ev_neg (by decide) h1)
    | false =>
      rw [hc] at ho
      refine ⟨i,Ev.step (fun f=>slices_IndexFunc_int_int__impl_areLists_1.l0.eq_2 ..) (ev_pos (by omega) (ev_pos (by omega) (ev_pos (by omega) ?_))),by rw [Bool.false_and,decide_eq_true (by omega)];rfl⟩
      rw [row_at hlt]
      exact Ev.bind ho (ev_pos rfl (Ev.now _))
def tasteB (a : Int) (T : List (List Int)) : Bool:=decide (1 ≤ a∧a ≤ 8) && (decide (T.length = 3) && T.all (rowB a))
theorem tastes_impl (a : Int) (T : List (List Int)) (hT : T.length ≤ 1048576) (hr : ∀ t ∈ T,t.length ≤ 1048576) : Ev (fun k=>impl_areTastes.f k a T) (tasteB a T):=by
  refine ev_bind0 (side_impl a) ?_;unfold tasteB;by_cases h : 1 ≤ a∧a ≤ 8
  · rw [decide_eq_true h,Bool.true_and]
    refine ev_pos rfl (Ev.bind (a:=decide (T.length = 3) && T.all (rowB a)) ?_ (Ev.now _));by_cases h3 : T.length = 3
    · rw [decide_eq_true h3,Bool.true_and]
      obtain ⟨r,h1,h2⟩:=taste_index a T hT hr T.length 0 (by omega);rw [List.drop_zero] at h2;refine ev_pos (by omega) (Ev.bind (Ev.bind h1 (ev_eq (Ev.now _) h2)) (ev_eq (Ev.now _) ?_));rw [Bool.not_not]
    · rw [decide_eq_false h3,Bool.false_and]
      exact ev_neg (by omega) (Ev.now _)
  · rw [decide_eq_false h,Bool.false_and]
    exact ev_neg (by decide) (Ev.now _)
theorem taste_loop (a : Int) (T : List (List Int)) (hT : T.length ≤ 1048576) (hr : ∀ t ∈ T,t.length ≤ 1048576) : ∀ d i : Nat,i + d = T.length→Ev (fun k=>spec_ckTastes.l0 k a T (T.length : Int) (i : Int)) ((T.drop i).all (rowB a))
  | 0,i,h=>Ev.step (fun f=>spec_ckTastes.l0.eq_2 ..) (ev_neg (by omega) (ev_eq (Ev.now _) (by rw [List.drop_eq_nil_of_le (by omega)];rfl)))
  | d + 1,i,h=>by
    have hlt : i < T.length:=by omega
    have hl:=hr _ (List.getElem_mem hlt)
    have hn:=nine_loop T[i] hl T[i].length 0 (by omega)
    rw [List.drop_zero] at hn
    rw [List.drop_eq_getElem_cons hlt,List.all_cons]
    refine Ev.step (fun f=>spec_ckTastes.l0.eq_2 ..) (ev_pos (by omega) (ev_pos (by omega) (ev_pos (by omega) ?_)))
    rw [row_at hlt,wr (by omega) (by omega)]
    have ih:=taste_loop a T hT hr d (i + 1) (by omega)
    by_cases h1 : (T[i].length : Int) = a
    · refine ev_pos h1 (Ev.bind hn ?_)
      have e : rowB a T[i] = nineB T[i]:=by unfold rowB;rw [decide_eq_true h1,Bool.true_and]
      rw [e]
      cases nineB T[i] with
      | true=>exact ev_pos rfl (ev_eq ih (by rw [Bool.true_and]))
      | false=>exact ev_neg (by decide) (ev_eq (Ev.now _) (by rw [Bool.false_and]))
    · have e : rowB a T[i] = false:=by unfold rowB;rw [decide_eq_false h1,Bool.false_and]
      exact ev_neg h1 (ev_eq (Ev.now _) (by rw [e,Bool.false_and]))
theorem tastes_spec (a : Int) (T : List (List Int)) (hT : T.length ≤ 1048576) (hr : ∀ t ∈ T,t.length ≤ 1048576) : Ev (fun k=>spec_ckTastes.f k a T) (tasteB a T):=by
  refine ev_bind0 (side_spec a) ?_;unfold tasteB;by_cases h : 1 ≤ a∧a ≤ 8
  · rw [decide_eq_true h,Bool.true_and]
    refine ev_pos rfl ?_;by_cases h3 : T.length = 3
    · have hl:=taste_loop a T hT hr T.length 0 (by omega)
      rw [List.drop_zero] at hl;rw [decide_eq_true h3,Bool.true_and];exact Ev.step (fun f=>spec_ckTastes.j0.eq_2 ..) (ev_neg (by rw [h3];decide) hl)
    · rw [decide_eq_false h3,Bool.false_and]
      exact Ev.step (fun f=>spec_ckTastes.j0.eq_2 ..) (ev_pos (bne_iff_ne.2 (fun e=>h3 (by omega))) (Ev.now _))
  · rw [decide_eq_false h,Bool.false_and]
    exact ev_neg (by decide) (Ev.step (fun f=>spec_ckTastes.j0.eq_2 ..) (ev_pos rfl (Ev.now _)))
/-! ### pieces -/
def sm : List Int→Int
  | []=>0
  | x :: r=>x + sm r
theorem sm_le : ∀ l : List Int,nineB l = true→0 ≤ sm l∧sm l ≤ 9 * (l.length : Int)
  | [],_=>⟨Int.le_refl _,Int.le_refl _⟩
  | x :: r,h=>by
    unfold nineB at h
    rw [List.all_cons,Bool.and_eq_true,decide_eq_true_eq] at h
    have:=sm_le r h.2
    rw [sm,List.length_cons]
    omega
theorem nine_drop {l : List Int} (h : nineB l = true) (i : Nat) : nineB (l.drop i) = true:=List.all_eq_true.2 fun x hx=>List.all_eq_true.1 h x (List.mem_of_mem_drop hx)
theorem nine_take {l : List Int} (h : nineB l = true) (i : Nat) : nineB (l.take i) = true:=List.all_eq_true.2 fun x hx=>List.all_eq_true.1 h x (List.mem_of_mem_take hx)
theorem nine_at {l : List Int} (h : nineB l = true) {i : Nat} (hi : i < l.length) : 0 ≤ l[i]∧l[i] ≤ 9:=of_decide_eq_true (List.all_eq_true.1 h _ (List.getElem_mem hi))
theorem sum_loop (l : List Int) (hn : nineB l = true) (hl : l.length ≤ 8) : ∀ (d i : Nat) (acc : Int),i + d = l.length→0 ≤ acc→acc ≤ 9 * (i : Int)→Ev (fun k=>impl_sum.l0 k acc l (l.length : Int) (i : Int)) (acc + sm (l.drop i))
  | 0,i,acc,h,_,_=>Ev.step (fun f=>impl_sum.l0.eq_2 ..) (ev_neg (by omega) (ev_eq (Ev.now _) (by rw [List.drop_eq_nil_of_le (by omega),sm];omega)))
  | d + 1,i,acc,h,h0,h1=>by
    have hlt : i < l.length:=by omega
    have hx:=nine_at hn hlt
    have ih:=sum_loop l hn hl d (i + 1) (acc + l[i]) (by omega) (by omega) (by omega)
    refine Ev.step (fun f=>impl_sum.l0.eq_2 ..) (ev_pos (by omega) (ev_pos (by omega) (ev_pos (by omega) ?_)))
    rw [rd_at hlt,wr (x:=acc + l[i]) (by omega) (by omega),wr (x:=(i : Int) + 1) (by omega) (by omega),List.drop_eq_getElem_cons hlt,sm]
    exact ev_eq ih (by omega)
theorem sum_ev (l : List Int) (hn : nineB l = true) (hl : l.length ≤ 8) : Ev (fun k=>impl_sum.f k l) (sm l):=by
  have:=sum_loop l hn hl l.length 0 0 (by omega) (by omega) (by omega);rw [List.drop_zero] at this;exact ev_eq this (by omega)
/-- The worths of the three pieces. -/
def pc (t : List Int) (x y z : Nat) : List Int:=[sm ((t.drop 0).take x),sm ((t.drop x).take y),sm ((t.drop (x + y)).take z)]
theorem pieces_impl {t : List Int} (hn : nineB t = true) (hl : t.length ≤ 8) {x y z : Nat} (h : x + y + z = t.length) : Ev (fun k=>impl_piecesOf.f k t (x : Int) (y : Int) (z : Int)) (pc t x y z):=by
  have e1 : wrap64 ((x : Int) + (y : Int)) = ((x + y : Nat) : Int):=by rw [wr (by omega) (by omega)];push_cast;rfl
  have e2 : (t.take (x + y)).drop x = (t.drop x).take y:=by rw [List.drop_take];congr 1;omega
  have e3 : t.drop (x + y) = (t.drop (x + y)).take z:=(List.take_of_length_le (by rw [List.length_drop];omega)).symm;refine ev_pos (by omega) (ev_pos (by omega) ?_);rw [Int.toNat_natCast];refine Ev.bind (sum_ev _ (nine_take hn x) (by rw [List.length_take];omega)) ?_;rw [e1,Int.toNat_natCast,e2];refine ev_pos (by omega) (ev_pos (by omega) (Ev.bind (sum_ev _ (nine_take (nine_drop hn x) y) (by rw [List.length_take,List.length_drop];omega)) (ev_pos (by omega) ?_)));refine Ev.bind (sum_ev _ (nine_drop hn (x + y)) (by rw [List.length_drop];omega)) (ev_eq (Ev.now _) ?_);unfold pc;rw [← e3,List.drop_zero]
theorem set_rd {o : List Int} {k : Nat} (hk : k < o.length) : o.set k (rd o (k : Int)) = o:=by
  have e : rd o (k : Int) = o[k]:=rd_at hk;rw [e];exact List.set_getElem_self hk
theorem rd_set {o : List Int} {k : Nat} (hk : k < o.length) (v : Int) : rd (o.set k v) (k : Int) = v:=by
  rw [rd_at (by rw [List.length_set];exact hk),List.getElem_set_self]
theorem piece_loop {t : List Int} (hn : nineB t = true) (hl : t.length ≤ 8) (P : List Int) (q : Nat) (hq : q < 3) (r : List Int) : ∀ (d at_ : Nat) (o : List Int),o.length = 3→at_ + d ≤ t.length→(0 ≤ rd o (q : Int)∧rd o (q : Int) ≤ 9 * (at_ : Int)) →
    Ev (fun k=>spec_ckPieces.l0 k t (o.set q (rd o (q : Int) + sm ((t.drop at_).take d))) ((at_ + d : Nat) : Int) P (P.length : Int) ((q + 1 : Nat) : Int)) r→Ev (fun k=>spec_ckPieces.l1 k t o (at_ : Int) (q : Int) (d : Int) P (P.length : Int) (q : Int)) r
  | 0,at_,o,ho,_,_,hr=>by
    rw [List.take_zero,sm,Int.add_zero,set_rd (by omega)] at hr
    refine Ev.step (fun f=>spec_ckPieces.l1.eq_2 ..) (ev_neg (by omega) ?_)
    rw [wr (by omega) (by omega)]
    exact hr
  | d + 1,at_,o,ho,ha,hb,hr=>by
    have hlt : at_ < t.length:=by omega
    have hx:=nine_at hn hlt
    refine Ev.step (fun f=>spec_ckPieces.l1.eq_2 ..) (ev_pos (by omega) (ev_pos (by omega) (ev_pos (by omega) (ev_pos (by omega) (ev_pos (by omega) ?_)))))
    rw [rd_at hlt,wr (x:=rd o (q : Int) + t[at_]) (by omega) (by omega),wr (x:=(at_ : Int) + 1) (by omega) (by omega),Int.toNat_natCast,show ((d + 1 : Nat) : Int) - 1 = (d : Int) by omega,wr (x:=(d : Int)) (by omega) (by omega)]
    refine piece_loop hn hl P q hq r d (at_ + 1) (o.set q (rd o (q : Int) + t[at_])) (by rw [List.length_set];exact ho) (by omega) (by rw [rd_set (by omega)];omega) ?_
    rw [rd_set (by omega),List.set_set]
    rw [List.drop_eq_getElem_cons hlt,List.take_succ_cons,sm] at hr
    rw [show rd o (q : Int) + t[at_] + sm ((t.drop (at_ + 1)).take d) = rd o (q : Int) + (t[at_] + sm ((t.drop (at_ + 1)).take d)) by omega,show at_ + 1 + d = at_ + (d + 1) by omega]
    exact hr
theorem pieces_spec {t : List Int} (hn : nineB t = true) (hl : t.length ≤ 8) {x y z : Nat} (h : x + y + z = t.length) : Ev (fun k=>spec_ckPieces.l0 k t [0,0,0] 0 [(x : Int),(y : Int),(z : Int)] 3 0) (pc t x y z):=by
  have s1:=sm_le _ (nine_take (nine_drop hn 0) x);have s2:=sm_le _ (nine_take (nine_drop hn x) y);refine Ev.step (fun f=>spec_ckPieces.l0.eq_2 ..) (ev_pos (by decide) (ev_pos (by decide) (ev_pos (by simp) ?_)));refine piece_loop hn hl [(x : Int),(y : Int),(z : Int)] 0 (by decide) _ x 0 [0,0,0] rfl (by omega) ⟨by decide,by decide⟩ ?_;refine Ev.step (fun f=>spec_ckPieces.l0.eq_2 ..) (ev_pos (by simp) (ev_pos (by decide) (ev_pos (by simp) ?_)));refine piece_loop hn hl [(x : Int),(y : Int),(z : Int)] 1 (by decide) _ y (0 + x) _ rfl (by omega) ⟨by show (0 : Int) ≤ 0;decide,by show (0 : Int) ≤ _;omega⟩ ?_;refine Ev.step (fun f=>spec_ckPieces.l0.eq_2 ..) (ev_pos (by simp) (ev_pos (by decide) (ev_pos (by simp) ?_)));refine piece_loop hn hl [(x : Int),(y : Int),(z : Int)] 2 (by decide) _ z (0 + x + y) _ rfl (by omega) ⟨by show (0 : Int) ≤ 0;decide,by show (0 : Int) ≤ _;omega⟩ ?_;refine Ev.step (fun f=>spec_ckPieces.l0.eq_2 ..) (ev_neg (by simp) (ev_eq (Ev.now _) ?_));unfold pc;simp only [List.set_cons_zero,List.set_cons_succ];rw [Nat.zero_add];show [0 + sm _,0 + sm _,0 + sm _] = _;simp only [Int.zero_add]
/-! ### favourites -/
theorem fav_loop (P ws : List Int) (hP : P.length = 3) (hw : ws.length = 3) : ∀ (d s : Nat) (b : Int),s + d = 3→-1 ≤ b→b < 3→Ev (fun k=>spec_ckFavourite.l0 k ws b P 3 (s : Int)) (impl_favourite.run P ws d (s : Int) b)
  | 0,s,b,h,_,_=>Ev.step (fun f=>spec_ckFavourite.l0.eq_2 ..) (ev_neg (by omega) (Ev.now _))
  | d + 1,s,b,h,h1,h2=>by
    have ih:=fun b' g1 g2=>fav_loop P ws hP hw d (s + 1) b' (by omega) g1 g2
    have es : (s : Int) + 1 = ((s + 1 : Nat) : Int):=by omega
    refine Ev.step (fun f=>spec_ckFavourite.l0.eq_2 ..) (ev_pos (by omega) (ev_pos (by omega) (ev_pos (by omega) ?_)))
    rw [wr (x:=(s : Int) + 1) (by omega) (by omega),impl_favourite.run,impl_favourite.fv,es]
    by_cases hx : rd P (s : Int) > 0
    · rw [if_pos hx]
      refine ev_pos hx ?_
      by_cases hb : b < 0
      · rw [if_pos hb]
        exact ev_pos hb (ih _ (by omega) (by omega))
      · rw [if_neg hb]
        refine ev_neg hb (ev_pos (by omega) (ev_pos (by omega) (ev_pos (by omega) ?_)))
        by_cases hv : rd ws (s : Int) > rd ws b
        · rw [if_pos hv];exact ev_pos hv (ih _ (by omega) (by omega))
        · rw [if_neg hv];exact ev_neg hv (ih _ h1 h2)
    · rw [if_neg hx]
      exact ev_neg hx (ih _ h1 h2)
theorem run_ok (P ws : List Int) : ∀ (d : Nat) (s b : Int),0 ≤ s→s + (d : Int) = 3→(-1 ≤ b∧b < 3)→-1 ≤ impl_favourite.run P ws d s b∧impl_favourite.run P ws d s b < 3
  | 0,s,b,_,_,h=>h
  | d + 1,s,b,h0,h1,h=>by
    rw [impl_favourite.run]
    refine run_ok P ws d (s + 1) _ (by omega) (by omega) ?_
    unfold impl_favourite.fv
    split
    · split
      · omega
      · split <;> omega
    · exact h
/-! ### labels -/
theorem sum_pts : ((List.range 9).all fun n=>n == 0 || (List.range 45).all fun i=>decide (many n ≤ i) || (decide ((rdP (ptsFn n) i).f0 + (rdP (ptsFn n) i).f1 + (rdP (ptsFn n) i).f2 = (n : Int)))) = true:=by decide +kernel
def own (n i : Nat) : Int:=Int.tmod ((rdP (ptsFn n) i).f1 + 2 * (rdP (ptsFn n) i).f2) 3
def lab (n : Nat) (T : List (List Int)) (i : Nat) : Int :=
  impl_favourite.run [(rdP (ptsFn n) i).f0,(rdP (ptsFn n) i).f1,(rdP (ptsFn n) i).f2] (pc (rd_L1 T (own n i)) (rdP (ptsFn n) i).f0.toNat (rdP (ptsFn n) i).f1.toNat (rdP (ptsFn n) i).f2.toNat) 3 0 (-1)
/-- Tastes of a side. -/
structure Tst (n : Nat) (T : List (List Int)) : Prop where
  side : Side n
  len : T.length = 3
  row : ∀ t ∈ T,t.length = n∧nineB t = true
section
variable {n : Nat} {T : List (List Int)} (H : Tst n T)
include H
theorem Tst.sum {i : Nat} (hi : i < many n) : (rdP (ptsFn n) i).f0 + (rdP (ptsFn n) i).f1 + (rdP (ptsFn n) i).f2 = (n : Int):=by
  have a:=H.side.tab sum_pts;have b:=List.all_eq_true.1 a i (List.mem_range.2 (by have:=many_le H.side.hi;omega));rw [decide_eq_false (by omega),Bool.false_or] at b;exact of_decide_eq_true b
theorem Tst.own_ok {i : Nat} (hi : i < many n) : 0 ≤ own n i∧own n i < 3:=by
  obtain ⟨h0,h1,h2⟩:=H.side.inside hi;unfold own;rw [Int.tmod_eq_emod_of_nonneg (by omega)];omega
theorem Tst.at_ {i : Nat} (hi : i < many n) : (rd_L1 T (own n i)).length = n∧nineB (rd_L1 T (own n i)) = true:=by
  have ho:=H.own_ok hi;have hl:=H.len
  have e : rd_L1 T (own n i) ∈ T:=by
    unfold rd_L1;rw [List.getD_eq_getElem?_getD,List.getElem?_eq_getElem (show (own n i).toNat < T.length by omega)];exact List.getElem_mem _
  exact H.row _ e
theorem Tst.nats {i : Nat} (hi : i < many n) : ∃ x y z : Nat,(rdP (ptsFn n) i).f0 = (x : Int)∧(rdP (ptsFn n) i).f1 = (y : Int)∧(rdP (ptsFn n) i).f2 = (z : Int)∧x + y + z = n:=by
  obtain ⟨h0,h1,h2⟩:=H.side.inside hi;have hs:=H.sum hi;exact ⟨_,_,_,(Int.toNat_of_nonneg h0.1).symm,(Int.toNat_of_nonneg h1.1).symm,(Int.toNat_of_nonneg h2.1).symm,by omega⟩
theorem Tst.fav_impl {i : Nat} (hi : i < many n) : Ev (fun k=>impl_favourite.f k (rd_L1 T (own n i)) (rdP (ptsFn n) i).f0 (rdP (ptsFn n) i).f1 (rdP (ptsFn n) i).f2) (lab n T i):=by
  obtain ⟨t1,t2⟩:=H.at_ hi;obtain ⟨x,y,z,e0,e1,e2,hs⟩:=H.nats hi;have hn:=H.side.hi;unfold lab;rw [e0,e1,e2];simp only [Int.toNat_natCast];exact Ev.bind (pieces_impl t2 (by omega) (by omega)) (ev_pos rfl (Ev.now _))
theorem Tst.fav_spec {i : Nat} (hi : i < many n) : Ev (fun k=>spec_ckFavourite.f k (n : Int) (rd_L1 T (own n i)) (i : Int)) (lab n T i):=by
  obtain ⟨t1,t2⟩:=H.at_ hi;obtain ⟨x,y,z,e0,e1,e2,hs⟩:=H.nats hi;have hn:=H.side.hi;have ha:=H.side.at_ hi;unfold lab;rw [e0,e1,e2] at ha ⊢;simp only [Int.toNat_natCast];exact Ev.bind (Ev.bind ha (pieces_spec t2 (by omega) (by omega))) (Ev.bind ha (fav_loop _ _ rfl rfl 3 0 (-1) rfl (by omega) (by omega)))
theorem Tst.own_spec {i : Nat} (hi : i < many n) : Ev (fun k=>spec_ckOwner.f k (n : Int) (i : Int)) (own n i):=by
  obtain ⟨h0,h1,h2⟩:=H.side.inside hi;refine Ev.bind (H.side.at_ hi) (ev_pos (by simp) (ev_pos (by simp) (ev_eq (Ev.now _) ?_)));show Int.tmod (wrap64 ((rdP (ptsFn n) i).f1 + wrap64 (2 * (rdP (ptsFn n) i).f2))) 3 = _;rw [wr (x:=2 * _) (by omega) (by omega),wr (by omega) (by omega)];rfl
theorem Tst.own_impl {i : Nat} (hi : i < many n) : impl_owner.f (rdP (ptsFn n) i).f0 (rdP (ptsFn n) i).f1 (rdP (ptsFn n) i).f2 = some (own n i):=by
  obtain ⟨h0,h1,h2⟩:=H.side.inside hi;unfold impl_owner.f own;rw [wr (x:=2 * _) (by omega) (by omega),wr (by omega) (by omega)]
theorem Tst.labI : ∀ d i : Nat,i + d = many n→Ev (fun k=>impl_cakeLabels.l0 k T ((List.range i).map (lab n T)) (ptsFn n) ((ptsFn n).length : Int) (i : Int)) ((List.range (many n)).map (lab n T))
  | 0,i,h=>by
    have hl:=H.side.len
    exact Ev.step (fun f=>impl_cakeLabels.l0.eq_2 ..) (ev_neg (by omega) (ev_eq (Ev.now _) (by rw [show i = many n from h])))
  | d + 1,i,h=>by
    have hl:=H.side.len
    have hi : i < many n:=by omega
    have hm:=many_le H.side.hi
    have ho:=H.own_ok hi
    have hT:=H.len
    have ih:=Tst.labI d (i + 1) (by omega)
    rw [List.range_succ,List.map_append] at ih
    refine Ev.step (fun f=>impl_cakeLabels.l0.eq_2 ..) (ev_pos (by omega) (ev_pos (by omega) (ev_pos (by omega) (ev_bind0 (H.own_impl hi) (ev_pos ho.1 (ev_pos (by omega) (Ev.bind (H.fav_impl hi) (ev_pos (by rw [List.length_map,List.length_range];omega) ?_))))))))
    rw [wr (by omega) (by omega)]
    exact ih
theorem Tst.labS : ∀ d i : Nat,i + d = many n→Ev (fun k=>spec_ckLabels.l0 k (n : Int) T ((List.range i).map (lab n T)) (i : Int)) ((List.range (many n)).map (lab n T))
  | 0,i,h=>by
    have hcnt : spec_meCount.f (n : Int) = some (many n : Int):=by
      have c:=of_decide_eq_true (H.side.tab cnt_tab);show some (cnt (n : Int)) = _;rw [c]
    exact Ev.step (fun f=>spec_ckLabels.l0.eq_2 ..) (ev_bind0 hcnt (ev_neg (by omega) (ev_eq (Ev.now _) (by rw [show i = many n from h]))))
  | d + 1,i,h=>by
    have hcnt : spec_meCount.f (n : Int) = some (many n : Int):=by
      have c:=of_decide_eq_true (H.side.tab cnt_tab);show some (cnt (n : Int)) = _;rw [c]
    have hi : i < many n:=by omega
    have hm:=many_le H.side.hi;have ho:=H.own_ok hi;have hT:=H.len;have ih:=Tst.labS d (i + 1) (by omega);rw [List.range_succ,List.map_append] at ih;refine Ev.step (fun f=>spec_ckLabels.l0.eq_2 ..) (ev_bind0 hcnt (ev_pos (by omega) (Ev.bind (H.own_spec hi) (ev_pos ho.1 (ev_pos (by omega) (Ev.bind (H.fav_spec hi) (ev_pos (by rw [List.length_map,List.length_range];omega) ?_)))))));rw [wr (by omega) (by omega)];exact ih
end
theorem tst_of {a : Int} {T : List (List Int)} (h : tasteB a T = true) : ∃ n : Nat,a = (n : Int)∧Tst n T:=by
  unfold tasteB at h;simp only [Bool.and_eq_true,decide_eq_true_eq] at h;obtain ⟨⟨h1,h2⟩,h3,h4⟩:=h;refine ⟨a.toNat,by omega,⟨by omega,by omega⟩,h3,fun t ht=>?_⟩;have:=List.all_eq_true.1 h4 t ht;unfold rowB at this;simp only [Bool.and_eq_true,decide_eq_true_eq] at this;exact ⟨by omega,this.2⟩
end Go.Proofs.Ytcecimigkndakab.QFnExactFairCut
/-! FindFull of the program returns what the reference's returns; the cell that it returns is one of the cells. -/
namespace Go.Proofs.Ytcecimigkndakab.QFnExactFairCut
open Go.RowKit Go.Proofs.Ytcecimigkndakab.PFnExactFairCut Go.Proofs.YtcecimigkndakabW.PrintWords Go.Proofs.YtcecimigkndakabW.PrintLast Go.Proofs.YtcecimigkndakabW.PrintMore
set_option linter.unusedVariables false
theorem find_loopsR {n : Nat} {L : List Int} (H : Home n L) (a0 : Int) (B : List Int) : ∀ d i : Nat,i + d = (gates n L).length→∃ r,Ev (fun k=>impl_FindFull.l0 k (gates n L) ((gates n L).length : Int) (i : Int) a0 L (cellsT n) B) r∧Ev (fun k=>spec_FindFull.l0 k (n : Int) L (cellsT n) (gates n L) ((gates n L).length : Int) (i : Int)) r∧(r.2 = true→0 ≤ r.1∧r.1 < ((cellsT n).length : Int))
  | 0,i,h=>⟨(0,false),Ev.step (fun f=>impl_FindFull.l0.eq_2 ..) (ev_neg (by omega) (Ev.now _)),Ev.step (fun f=>spec_FindFull.l0.eq_2 ..) (ev_neg (by omega) (Ev.now _)),fun z=>by cases z⟩
  | d + 1,i,h=>by
    have hlt : i < (gates n L).length:=by omega
    have hg : (gates n L).length ≤ 24:=by
      refine Nat.le_trans (List.length_filter_le _ _) ?_;rw [stepsT_eq,List.length_map,List.length_range];exact H.lenB
    have er : rd_L1 (gates n L) (i : Int) = (gates n L)[i]:=by unfold rd_L1;rw [Int.toNat_natCast,List.getD_eq_getElem?_getD,List.getElem?_eq_getElem hlt];rfl
    have hm:=List.getElem_mem hlt;obtain ⟨x',y',e,_,_⟩:=H.step (List.mem_filter.1 hm).1;obtain ⟨vs,x,dd,b,hv,hx,hf,hi,hs⟩:=H.enter hm (p:=rd (gates n L)[i] 0) (q:=rd (gates n L)[i] 1) rfl;obtain ⟨l1,l2⟩:=last_rd vs x hv;have hrg:=H.range hx;have hlen : (gates n L)[i].length = 2:=by rw [e];rfl
    obtain ⟨r,r1,r2,r3⟩:=find_loopsR H a0 B d (i + 1) (by omega)
    have ev1 : ∀ {s : Int × Bool},(b = true→s = (x,true))→(b = false→s = r)→Ev (fun k=>impl_FindFull.l0 k (gates n L) ((gates n L).length : Int) (i : Int) a0 L (cellsT n) B) s:=fun {s} h1 h2=>by
      refine Ev.step (fun f=>impl_FindFull.l0.eq_2 ..) (ev_pos (by omega) (ev_pos (by omega) (ev_pos (by omega) ?_)));rw [er];refine ev_pos (by omega) (ev_pos (by omega) (Ev.bind (hi a0 B) ?_));show Ev (fun k=>if b = true then _ else _) s;cases hb : b with
      | true =>
        refine ev_pos rfl ?_;rw [l1,l2,h1 hb];exact ev_pos (by omega) (ev_pos (by rw [List.length_append,List.length_singleton];omega) (Ev.now _))
      | false =>
        refine ev_neg (by decide) ?_;rw [wr (by omega) (by omega),h2 hb];exact r1
    have ev2 : ∀ {s : Int × Bool},(b = true→s = (x,true))→(b = false→s = r)→Ev (fun k=>spec_FindFull.l0 k (n : Int) L (cellsT n) (gates n L) ((gates n L).length : Int) (i : Int)) s:=fun {s} h1 h2=>by
      refine Ev.step (fun f=>spec_FindFull.l0.eq_2 ..) (ev_pos (by omega) (ev_pos (by omega) (ev_pos (by omega) ?_)));rw [er];refine ev_pos (by omega) (ev_pos (by omega) (Ev.bind hs ?_));have ec : rd_L1 (cellsT n) x = cl n x:=rfl;have hff : Ev (fun k=>spec_doFull.f k L (cl n x)) b:=by rw [← hf];exact doFull_ev H.lbl (H.tri hx)
      rw [l1,l2,ec];refine ev_pos (by omega) (ev_pos (by rw [List.length_append,List.length_singleton];omega) (ev_pos hrg.1 (ev_pos hrg.2 (Ev.bind hff ?_))));cases hb : b with
      | true =>
        rw [h1 hb];exact ev_pos rfl (Ev.now _)
      | false =>
        refine ev_neg (by decide) ?_;rw [wr (by omega) (by omega),h2 hb];exact r2
    cases hb : b with
    | true=>exact ⟨(x,true),ev1 (fun _=>rfl) (fun z=>by rw [hb] at z;cases z),ev2 (fun _=>rfl) (fun z=>by rw [hb] at z;cases z),fun _=>hrg⟩
    | false=>exact ⟨r,ev1 (fun z=>by rw [hb] at z;cases z) (fun _=>rfl),ev2 (fun z=>by rw [hb] at z;cases z) (fun _=>rfl),r3⟩
theorem find_bothR (a0 : Int) (l : List Int) (hl : l.length ≤ 1048576) : ∃ r,Ev (fun k=>impl_FindFull.f k a0 l) r∧Ev (fun k=>spec_FindFull.f k a0 l) r∧(r.2 = true→∃ n : Nat,a0 = (n : Int)∧0 ≤ r.1∧r.1 < ((cellsT n).length : Int)):=by
  have h1:=labels_impl a0 l hl;have h2:=labels_spec a0 l hl;cases hk : labB a0 l with
  | false =>
    rw [hk] at h1 h2;exact ⟨(0,false),Ev.bind (Ev.bind h1 (ev_neg (by decide) (Ev.now _))) (ev_neg (by decide) (Ev.now _)),Ev.bind h2 (ev_neg (by decide) (Ev.now _)),fun z=>by cases z⟩
  | true =>
    rw [hk] at h1 h2;obtain ⟨n,e,H⟩:=home_of hk;subst e;obtain ⟨r,r1,r2,r3⟩:=find_loopsR H (n : Int) (bordT n) (gates n l).length 0 (Nat.zero_add _)
    exact ⟨r,Ev.bind (Ev.bind h1 (ev_pos rfl (Ev.bind H.side.cellsI (Ev.bind H.side.bordI (Ev.now _))))) (ev_pos rfl (Ev.bind (H.entries_ev (n : Int) (cellsT n)) r1)),
      Ev.bind h2 (ev_pos rfl (Ev.bind H.side.cellsS (Ev.bind H.border_ev r2))),fun z=>⟨n,rfl,r3 z⟩⟩
end Go.Proofs.Ytcecimigkndakab.QFnExactFairCut
/-! FairCut of the program returns what the reference's returns. -/
namespace Go.Proofs.Ytcecimigkndakab.QFnExactFairCut
open Go.RowKit Go.Proofs.Ytcecimigkndakab.PFnExactFairCut Go.Proofs.YtcecimigkndakabW.PrintWords Go.Proofs.YtcecimigkndakabW.PrintLast Go.Proofs.YtcecimigkndakabW.PrintMore
set_option linter.unusedVariables false
set_option linter.unusedSimpArgs false
set_option maxRecDepth 100000
theorem cell_tab : ((List.range 9).all fun n=>n == 0 || (cellsT n).all fun c=>decide (c.length = 3) && c.all fun x=>decide (0 ≤ x) && decide (x < (many n : Int))) = true:=by decide +kernel
/-- Three points of a side. -/
structure Tri3 (n : Nat) (C : List Int) : Prop where
  len : C.length = 3
  pt : ∀ i : Nat,i < 3→∃ m : Nat,m < many n∧rd C (i : Int) = (m : Int)
theorem tri3_of {n : Nat} (h : Side n) {x : Int} (h0 : 0 ≤ x) (h1 : x < ((cellsT n).length : Int)) : Tri3 n (rd_L1 (cellsT n) x):=by
  have a:=List.all_eq_true.1 (h.tab cell_tab) (rd_L1 (cellsT n) x) (by
    unfold rd_L1;rw [List.getD_eq_getElem?_getD,List.getElem?_eq_getElem (show x.toNat < (cellsT n).length by omega)];exact List.getElem_mem _)
  rw [Bool.and_eq_true,decide_eq_true_eq] at a;refine ⟨a.1,fun i hi=>?_⟩;have hlt : i < (rd_L1 (cellsT n) x).length:=by rw [a.1];exact hi
  have b:=List.all_eq_true.1 a.2 _ (List.getElem_mem hlt);rw [Bool.and_eq_true,decide_eq_true_eq,decide_eq_true_eq] at b;exact ⟨((rd_L1 (cellsT n) x)[i]).toNat,by omega,by rw [rd_at hlt];omega⟩
/-- The pieces as they are given out. -/
def fill (n : Nat) (T : List (List Int)) (C : List Int) : Nat→Nat→List Int→List Int
  | 0,_,o=>o
  | d + 1,i,o=>fill n T C d (i + 1) (o.set (own n (rd C (i : Int)).toNat).toNat (lab n T (rd C (i : Int)).toNat))
theorem fill_len (n : Nat) (T : List (List Int)) (C : List Int) : ∀ d i o,(fill n T C d i o).length = o.length
  | 0,_,_=>rfl
  | d + 1,i,o=>by rw [fill,fill_len n T C d,List.length_set]
section
variable {n : Nat} {T : List (List Int)} (H : Tst n T) {C : List Int} (hC : Tri3 n C)
include H hC
theorem cutI : ∀ (d i : Nat) (o : List Int),i + d = 3→o.length = 3→Ev (fun k=>impl_FairCut.l0 k T C (ptsFn n) o C (C.length : Int) (i : Int)) (rd C 0,fill n T C d i o,true)
  | 0,i,o,h,ho=>by
    have hl:=hC.len
    exact Ev.step (fun f=>impl_FairCut.l0.eq_2 ..) (ev_neg (by omega) (ev_pos (by omega) (Ev.now _)))
  | d + 1,i,o,h,ho=>by
    have hl:=hC.len
    obtain ⟨m,hm,em⟩:=hC.pt i (by omega)
    have hp:=H.side.len
    have hw:=H.own_ok hm
    have hT:=H.len
    have ih:=cutI d (i + 1) (o.set (own n m).toNat (lab n T m)) (by omega) (by rw [List.length_set];exact ho)
    have ef : fill n T C (d + 1) i o = fill n T C d (i + 1) (o.set (own n m).toNat (lab n T m)):=by rw [fill,em,Int.toNat_natCast]
    rw [ef]
    refine Ev.step (fun f=>impl_FairCut.l0.eq_2 ..) (ev_pos (by omega) (ev_pos (by omega) (ev_pos (by omega) ?_)))
    rw [em]
    refine ev_pos (by omega) (ev_pos (by omega) (ev_bind0 (H.own_impl hm) (ev_pos hw.1 (ev_pos (by omega) (Ev.bind (H.fav_impl hm) (ev_pos (by omega) ?_))))))
    rw [wr (by omega) (by omega)]
    exact ih
theorem cutS : ∀ (d i : Nat) (o : List Int),i + d = 3→o.length = 3→Ev (fun k=>spec_FairCut.l0 k (n : Int) ((List.range (many n)).map (lab n T)) C o C (C.length : Int) (i : Int)) (rd C 0,fill n T C d i o,true)
  | 0,i,o,h,ho=>by
    have hl:=hC.len
    exact Ev.step (fun f=>spec_FairCut.l0.eq_2 ..) (ev_neg (by omega) (ev_pos (by omega) (Ev.now _)))
  | d + 1,i,o,h,ho=>by
    have hl:=hC.len
    obtain ⟨m,hm,em⟩:=hC.pt i (by omega)
    have hw:=H.own_ok hm
    have ih:=cutS d (i + 1) (o.set (own n m).toNat (lab n T m)) (by omega) (by rw [List.length_set];exact ho)
    have ef : fill n T C (d + 1) i o = fill n T C d (i + 1) (o.set (own n m).toNat (lab n T m)):=by rw [fill,em,Int.toNat_natCast]
    have hL : ((List.range (many n)).map (lab n T)).length = many n:=by rw [List.length_map,List.length_range]
    have er : rd ((List.range (many n)).map (lab n T)) (m : Int) = lab n T m:=by rw [rd_at (by omega),List.getElem_map,List.getElem_range]
    rw [ef]
    refine Ev.step (fun f=>spec_FairCut.l0.eq_2 ..) (ev_pos (by omega) (ev_pos (by omega) (ev_pos (by omega) ?_)))
    rw [em]
    refine Ev.bind (H.own_spec hm) (ev_pos (by omega) (ev_pos (by omega) (ev_pos hw.1 (ev_pos (by omega) ?_))))
    rw [er,wr (by omega) (by omega)]
    exact ih
end
theorem cut_both (a0 : Int) (T : List (List Int)) (hT : T.length ≤ 1048576) (hr : ∀ t ∈ T,t.length ≤ 1048576) : ∃ r : Int × List Int × Bool,r.2.1.length ≤ 3∧Ev (fun k=>impl_FairCut.f k a0 T) r∧Ev (fun k=>spec_FairCut.f k a0 T) r:=by
  have h1:=tastes_impl a0 T hT hr;have h2:=tastes_spec a0 T hT hr;cases hk : tasteB a0 T with
  | false =>
    rw [hk] at h1 h2;exact ⟨(0,[],false),by simp,Ev.bind (Ev.bind h1 (ev_neg (by decide) (Ev.now _))) (ev_neg (by decide) (Ev.now _)),Ev.bind h2 (ev_neg (by decide) (Ev.now _))⟩
  | true =>
    rw [hk] at h1 h2;obtain ⟨n,e,H⟩:=tst_of hk;subst e;have hm:=many_le H.side.hi;obtain ⟨⟨x,b⟩,f1,f2,f3⟩:=find_bothR (n : Int) ((List.range (many n)).map (lab n T)) (by rw [List.length_map,List.length_range];omega);have hI : Ev (fun k=>impl_FairCell.f k (n : Int) T) (x,b):=Ev.bind h1 (ev_pos rfl (Ev.bind (Ev.bind H.side.points (H.labI (many n) 0 (Nat.zero_add _))) (Ev.bind f1 (Ev.now _))));have hS:=H.labS (many n) 0 (Nat.zero_add _);cases b with
    | false=>exact ⟨(0,[],false),by simp,Ev.bind hI (ev_neg Bool.false_ne_true (Ev.now _)),Ev.bind h2 (ev_pos rfl (Ev.bind hS (Ev.bind f2 (ev_neg Bool.false_ne_true (Ev.now _)))))⟩
    | true =>
      obtain ⟨n',en,g0,g1⟩:=f3 rfl;obtain rfl : n = n':=by omega
      have g0 : 0 ≤ x:=g0;have g1 : x < ((cellsT n).length : Int):=g1;have hC:=tri3_of H.side g0 g1;refine ⟨(rd (rd_L1 (cellsT n) x) 0,fill n T (rd_L1 (cellsT n) x) 3 0 [0,0,0],true),by show (fill _ _ _ _ _ _).length ≤ 3;rw [fill_len];decide,?_,?_⟩
      · exact Ev.bind hI (ev_pos rfl (Ev.bind H.side.cellsI (ev_pos g0 (ev_pos g1 (Ev.bind H.side.points (ev_pos (by decide) (cutI H hC 3 0 [0,0,0] rfl rfl)))))))
      · exact Ev.bind h2 (ev_pos rfl (Ev.bind hS (Ev.bind f2 (ev_pos rfl (Ev.bind H.side.cellsS (ev_pos g0 (ev_pos g1 (cutS H hC 3 0 [0,0,0] rfl rfl))))))))
end Go.Proofs.Ytcecimigkndakab.QFnExactFairCut
/-! The laws' own helpers on slices of slices: what is measured, copied and compared. -/
namespace Go.Proofs.Ytcecimigkndakab.QFnExactFairCut
open Go.RowKit Go.Proofs.Ytcecimigkndakab.PFnExactFairCut Go.Proofs.YtcecimigkndakabW.PrintWords Go.Proofs.YtcecimigkndakabW.PrintLast Go.Proofs.YtcecimigkndakabW.PrintMore
set_option linter.unusedVariables false
set_option linter.unusedSimpArgs false
set_option maxRecDepth 100000
theorem row_get {G : List (List Int)} {i : Nat} (h : i < G.length) : rd_L1 G (i : Int) = G[i]:=by
  unfold rd_L1;rw [Int.toNat_natCast,List.getD_eq_getElem?_getD,List.getElem?_eq_getElem h];rfl
theorem sz_loop (T : List (List Int)) (hT : T.length ≤ 1048576) (hr : ∀ y ∈ T,y.length ≤ 9223372036854775807) : ∀ (d i : Nat) (left : Int),i + d = T.length→0 ≤ left→left ≤ 1048576 →
    ∃ r : Int,Ev (fun k=>laws_szIntSS.l0 k T left (i : Int)) r∧(0 ≤ r→∀ y ∈ T.drop i,y.length ≤ 1048576)
  | 0,i,left,h,h0,h1=>⟨left,Ev.step (fun f=>laws_szIntSS.l0.eq_2 ..) (ev_neg (by omega) (Ev.now _)),fun _ y hy=>by rw [List.drop_eq_nil_of_le (by omega)] at hy;cases hy⟩
  | d + 1,i,left,h,h0,h1=>by
    have hlt : i < T.length:=by omega
    have hl:=hr _ (List.getElem_mem hlt)
    by_cases hc : left - (T[i].length : Int) < 0
    · refine ⟨-1,Ev.step (fun f=>laws_szIntSS.l0.eq_2 ..) (ev_pos (by omega) (ev_pos (by omega) ?_)),fun z=>by omega⟩
      rw [row_get hlt]
      refine ev_bind0 (a:=-1) ?_ (ev_pos (by decide) (Ev.now _))
      unfold laws_szIntS.f
      rw [wr (by omega) (by omega),if_pos hc]
    · obtain ⟨r,h2,h3⟩:=sz_loop T hT hr d (i + 1) (left - (T[i].length : Int)) (by omega) (by omega) (by omega)
      refine ⟨r,Ev.step (fun f=>laws_szIntSS.l0.eq_2 ..) (ev_pos (by omega) (ev_pos (by omega) ?_)),fun z y hy=>?_⟩
      · rw [row_get hlt,wr (x:=(i : Int) + 1) (by omega) (by omega)]
        refine ev_bind0 (a:=left - (T[i].length : Int)) ?_ (ev_neg hc h2)
        unfold laws_szIntS.f
        rw [wr (by omega) (by omega),if_neg hc]
      · rw [List.drop_eq_getElem_cons hlt] at hy
        rcases List.mem_cons.1 hy with e|e
        · rw [e];omega
        · exact h3 z y e
theorem sz_ev (T : List (List Int)) (hT : T.length ≤ 9223372036854775807) (hr : ∀ y ∈ T,y.length ≤ 9223372036854775807) : ∃ r : Int,Ev (fun k=>laws_szIntSS.f k T 1048576) r∧(0 ≤ r→T.length ≤ 1048576∧∀ y ∈ T,y.length ≤ 1048576):=by
  by_cases hc : (1048576 : Int) - (T.length : Int) < 0
  · exact ⟨-1,Ev.congr (fun k=>by unfold laws_szIntSS.f;rw [wr (by omega) (by omega)]) (ev_pos (g:=fun k=>laws_szIntSS.l0 k T (1048576 - (T.length : Int)) 0) hc (Ev.now _)),fun z=>by omega⟩
  · obtain ⟨r,h1,h2⟩:=sz_loop T (by omega) hr T.length 0 (1048576 - (T.length : Int)) (by omega) (by omega) (by omega)
    rw [List.drop_zero] at h2;exact ⟨r,Ev.congr (fun k=>by unfold laws_szIntSS.f;rw [wr (by omega) (by omega)];rfl) (ev_neg (f:=fun k=>some (-1)) hc h1),fun z=>⟨by omega,h2 z⟩⟩
theorem toSS_loop (T : List (List Int)) (hT : T.length ≤ 1048576) (hr : ∀ y ∈ T,y.length ≤ 1048576) : ∀ d i : Nat,i + d = T.length→Ev (fun k=>laws_toIntSS.l0 k T (T.take i ++ List.replicate d []) (i : Int)) T
  | 0,i,h=>by
    refine Ev.step (fun f=>laws_toIntSS.l0.eq_2 ..) (ev_neg (by omega) (ev_eq (Ev.now _) ?_))
    rw [List.take_of_length_le (by omega)];simp
  | d + 1,i,h=>by
    have hlt : i < T.length:=by omega
    have hz : (T.take i ++ List.replicate (d + 1) ([] : List Int)).length = T.length:=by simp;omega
    refine Ev.step (fun f=>laws_toIntSS.l0.eq_2 ..) (ev_pos (by omega) (ev_pos (by omega) ?_))
    rw [row_get hlt]
    refine Ev.bind (toIntS_ev _ (hr _ (List.getElem_mem hlt))) (ev_pos (by rw [hz];omega) ?_)
    have e1 : ((i : Int)).toNat = i:=by omega
    rw [e1,wr (by omega) (by omega)]
    have e2 : (T.take i ++ List.replicate (d + 1) ([] : List Int)).set i T[i] = T.take (i + 1) ++ List.replicate d []:=by
      rw [List.set_append,if_neg (by simp;omega),List.length_take,Nat.min_eq_left (by omega),Nat.sub_self,List.replicate_succ,List.set_cons_zero,List.take_succ_eq_append_getElem hlt,List.append_assoc];rfl
    rw [e2];exact toSS_loop T hT hr d (i + 1) (by omega)
theorem toSS_ev (T : List (List Int)) (hT : T.length ≤ 1048576) (hr : ∀ y ∈ T,y.length ≤ 1048576) : Ev (fun k=>laws_toIntSS.f k T) T:=by
  refine ev_pos (by omega) (ev_pos (by omega) ?_);have:=toSS_loop T hT hr T.length 0 (by omega);have e1 : ((T.length : Int)).toNat = T.length:=by omega
  rw [e1];simpa using this
theorem eqSS_loop (T : List (List Int)) (hT : T.length ≤ 1048576) (hr : ∀ y ∈ T,y.length ≤ 1048576) : ∀ d i : Nat,i + d = T.length→Ev (fun k=>laws_eqIntSS.l0 k T T (i : Int)) true
  | 0,i,h=>Ev.step (fun f=>laws_eqIntSS.l0.eq_2 ..) (ev_neg (by omega) (Ev.now _))
  | d + 1,i,h=>by
    have hlt : i < T.length:=by omega
    have hl:=hr _ (List.getElem_mem hlt)
    refine Ev.step (fun f=>laws_eqIntSS.l0.eq_2 ..) (ev_pos (by omega) (ev_pos (by omega) (ev_pos (by omega) ?_)))
    rw [row_get hlt,wr (by omega) (by omega)]
    exact Ev.bind (eqIntS_self _ (by omega)) (ev_pos rfl (eqSS_loop T hT hr d (i + 1) (by omega)))
theorem eqSS_self (T : List (List Int)) (hT : T.length ≤ 1048576) (hr : ∀ y ∈ T,y.length ≤ 1048576) : Ev (fun k=>laws_eqIntSS.f k T T) true:=ev_pos rfl (eqSS_loop T hT hr T.length 0 (by omega))
end Go.Proofs.Ytcecimigkndakab.QFnExactFairCut
/-! The laws' own helpers on lists of numbers: what is marked from a number on is held. -/
namespace Go.Proofs.Ytcecimigkndakab.QFnExactFairCut
open Go.RowKit Go.Proofs.Ytcecimigkndakab.PFnExactFairCut Go.Proofs.YtcecimigkndakabW.PrintWords Go.Proofs.YtcecimigkndakabW.PrintLast Go.Proofs.YtcecimigkndakabW.PrintMore
set_option linter.unusedVariables false
set_option linter.unusedSimpArgs false
theorem mark_from_l0 (s : Int) (hs : 0 ≤ s) (hs2 : s ≤ 1000000000) : ∀ (d : Nat) (l : List Int) (i : Nat),l.length < 1000000000→l.length = i + d →
    ∃ l',Ev (fun k=>laws_markIntS.l0 k l (s + (i : Int)) i) (s + (l.length : Int),l')∧l'.length = l.length∧(∀ j,j < i→l'[j]? = l[j]?)∧(∀ j,i ≤ j→j < l.length→l'[j]? = some (s + (j : Int))):=by
  intro d;induction d with
  | zero =>
    intro l i hl h;refine ⟨l,Ev.step (f:=fun _=>some (s + (i : Int),l)) (fun k=>by simp only [laws_markIntS.l0];rw [if_neg (by omega)]) (ev_eq (Ev.now _) (by rw [h];simp)),rfl,fun _ _=>rfl,fun j h1 h2=>by omega⟩
  | succ d ih =>
    intro l i hl h;obtain ⟨l',e,h1,h2,h3⟩:=ih (l.set i (s + (i : Int))) (i + 1) (by simpa using hl) (by simp;omega);refine ⟨l',Ev.step (f:=fun k=>laws_markIntS.l0 k (l.set i (s + (i : Int))) (s + ((i + 1 : Nat) : Int)) ((i + 1 : Nat) : Int)) (fun k=>?_) (by simpa using e),by simpa using h1,fun j hj=>?_,fun j hj hj2=>?_⟩
    · simp only [laws_markIntS.l0]
      rw [if_pos (by omega),if_pos (by omega),wr (by omega) (by omega),wr (by omega) (by omega)];rw [show s + (i : Int) + 1 = s + ((i + 1 : Nat) : Int) by omega];rfl
    · rw [h2 j (by omega),List.getElem?_set_ne (by omega)]
    · rcases Nat.lt_or_ge i j with hij|hij
      · exact h3 j hij (by simpa using hj2)
      · have : j = i:=by omega
        subst this;rw [h2 j (by omega),List.getElem?_set_self (by omega)]
theorem held_from_l0 (s : Int) (hs : 0 ≤ s) (hs2 : s ≤ 1000000000) : ∀ (d : Nat) (l : List Int) (i : Nat),l.length < 1000000000→l.length = i + d→(∀ j,i ≤ j→j < l.length→l[j]? = some (s + (j : Int))) →
    Ev (fun k=>laws_heldIntS.l0 k l (s + (i : Int)) i) (s + (l.length : Int)):=by
  intro d;induction d with
  | zero =>
    intro l i hl h hv;exact Ev.step (f:=fun _=>some (s + (i : Int))) (fun k=>by simp only [laws_heldIntS.l0];rw [if_neg (by omega)]) (ev_eq (Ev.now _) (by rw [h];simp))
  | succ d ih =>
    intro l i hl h hv;have e:=ih l (i + 1) hl (by omega) (fun j h1 h2=>hv j (by omega) h2);refine Ev.step (f:=fun k=>laws_heldIntS.l0 k l (s + ((i + 1 : Nat) : Int)) ((i + 1 : Nat) : Int)) (fun k=>?_) e
    have hr : rd l (i : Int) = s + (i : Int):=by
      have a:=rd_get (l:=l) (i:=(i : Int)) (by omega) (by omega);rw [Int.toNat_natCast,hv i (Nat.le_refl _) (by omega)] at a;exact (Option.some.inj a).symm
    simp only [laws_heldIntS.l0];rw [if_pos (by omega),if_pos (by omega),if_pos hr,wr (by omega) (by omega),wr (by omega) (by omega)];rw [show s + (i : Int) + 1 = s + ((i + 1 : Nat) : Int) by omega];rfl
theorem mark_from (s : Int) (hs : 0 ≤ s) (hs2 : s ≤ 1000000000) (l : List Int) (hl : l.length < 1000000000) : ∃ l',Ev (fun k=>laws_markIntS.f k l s) (s + (l.length : Int),l')∧Ev (fun k=>laws_heldIntS.f k l' s) (s + (l.length : Int)):=by
  obtain ⟨l',e,h1,_,h3⟩:=mark_from_l0 s hs hs2 l.length l 0 hl (by omega);have e0 : s + ((0 : Nat) : Int) = s:=by simp
  rw [e0] at e;refine ⟨l',Ev.congr (fun k=>rfl) e,?_⟩;have z:=held_from_l0 s hs hs2 l'.length l' 0 (by omega) (by omega) (fun j _ hj=>h3 j (by omega) (by omega));rw [h1,e0] at z;exact Ev.congr (fun k=>rfl) z
end Go.Proofs.Ytcecimigkndakab.QFnExactFairCut
/-! FairCut of the program returns what the reference's returns, for all arguments; there are no conditions. -/
namespace Go.Proofs.Ytcecimigkndakab.Pure
open Go.RowKit Go.Proofs.Ytcecimigkndakab.PFnExactFairCut Go.Proofs.YtcecimigkndakabW.PrintWords Go.Proofs.YtcecimigkndakabW.PrintLast Go.Proofs.YtcecimigkndakabW.PrintMore Go.Proofs.Ytcecimigkndakab.QFnExactFairCut
set_option linter.unusedVariables false
set_option maxRecDepth 100000
theorem mark_any : ∀ (d : Nat) (l : List Int) (i : Nat) (s : Int),l.length = i + d→l.length ≤ 1048576→0 ≤ s→s + (d : Int) ≤ 1152921504606846976→∃ l',Ev (fun k=>laws_markIntS.l0 k l s (i : Int)) (s + (d : Int),l')
  | 0,l,i,s,h,hl,h0,h1=>⟨l,Ev.step (fun f=>laws_markIntS.l0.eq_2 ..) (ev_neg (by omega) (ev_eq (Ev.now _) (by simp)))⟩
  | d + 1,l,i,s,h,hl,h0,h1=>by
    obtain ⟨l',e⟩:=mark_any d (l.set i s) (i + 1) (s + 1) (by rw [List.length_set];omega) (by rw [List.length_set];exact hl) (by omega) (by omega)
    refine ⟨l',Ev.step (fun f=>laws_markIntS.l0.eq_2 ..) (ev_pos (by omega) (ev_pos (by omega) ?_))⟩
    rw [Int.toNat_natCast,wr (x:=s + 1) (by omega) (by omega),wr (x:=(i : Int) + 1) (by omega) (by omega)]
    exact ev_eq e (by rw [show s + 1 + (d : Int) = s + ((d + 1 : Nat) : Int) by omega])
theorem markSS (T : List (List Int)) (hT : T.length ≤ 1048576) (hr : ∀ t ∈ T,t.length ≤ 1048576) (d : Nat) : ∀ (i : Nat) (s : Int),i + d = T.length→0 ≤ s→s + (d : Int) * 1048576 ≤ 1152921504606846976→∃ r : Int,0 ≤ r∧Ev (fun k=>laws_markIntSS.l0 k T s (i : Int)) r:=by
  induction d with
  | zero =>
    intro i s h h0 h1;exact ⟨s,h0,Ev.step (fun f=>laws_markIntSS.l0.eq_2 ..) (ev_neg (by omega) (Ev.now _))⟩
  | succ d ih =>
    intro i s h h0 h1;have hlt : i < T.length:=by omega
    have hl:=hr _ (List.getElem_mem hlt);obtain ⟨l',e⟩:=mark_any T[i].length T[i] 0 s (by omega) hl h0 (by omega);obtain ⟨r,r0,r1⟩:=ih (i + 1) (s + (T[i].length : Int)) (by omega) (by omega) (by omega);refine ⟨r,r0,Ev.step (fun f=>laws_markIntSS.l0.eq_2 ..) (ev_pos (by omega) (ev_pos (by omega) (ev_pos (by omega) ?_)))⟩;rw [row_get hlt,wr (by omega) (by omega)];exact Ev.bind e r1
theorem fairCut (a0 : Int) (l1 : List (List Int)) (hm : l1.length ≤ 9223372036854775807) (hr : ∀ y ∈ l1,y.length ≤ 9223372036854775807) : ∃ k,laws_FnExactFairCut.f k a0 l1 = some true:=by
  apply Ev.rounds;obtain ⟨z,h1,h2⟩:=sz_ev l1 hm hr;by_cases h : z < 0
  · exact Ev.bind h1 (ev_pos h (Ev.now _))
  · obtain ⟨hT,hR⟩:=h2 (by omega)
    have hc:=toSS_ev l1 hT hR;have he:=eqSS_self l1 hT hR;obtain ⟨⟨x,p,b⟩,hp,r1,r2⟩:=cut_both a0 l1 hT hR;have hp : p.length ≤ 3:=hp;have hep:=eqIntS_self p (by omega);obtain ⟨m,m0,hm1⟩:=markSS l1 hT hR l1.length 0 1 (by omega) (by omega) (by omega);obtain ⟨p',hm2,hh⟩:=mark_from 1 (by decide) (by decide) p (by omega);refine Ev.bind h1 (ev_neg h (Ev.bind hc (Ev.bind r2 (Ev.bind hc (Ev.bind r1 (ev_pos rfl (Ev.bind hep (ev_pos rfl ?_))))))));rw [bne_self_eq_false];refine Ev.step (fun f=>laws_FnExactFairCut.j0.eq_2 ..) (ev_neg (by decide) (Ev.bind hc (Ev.bind he (ev_pos rfl (Ev.bind hm1 (ev_neg (by omega) (ev_pos rfl (Ev.bind hep (ev_pos rfl ?_)))))))));rw [bne_self_eq_false];refine Ev.step (fun f=>laws_FnExactFairCut.j1.eq_2 ..) (ev_neg (by decide) (Ev.bind hm2 (Ev.bind hh (ev_neg (by show ¬ (1 + (p.length : Int)) < 0;omega) (ev_pos rfl (Ev.bind hc (Ev.bind r1 (ev_pos rfl (Ev.bind hep (ev_pos rfl ?_))))))))));rw [bne_self_eq_false];exact Ev.step (fun f=>laws_FnExactFairCut.j2.eq_2 ..) (ev_neg (by decide) (Ev.bind hh (ev_neg (by show ¬ (1 + (p.length : Int)) < 0;omega) (ev_pos rfl (Ev.now _)))))
end Go.Proofs.Ytcecimigkndakab.Pure
