-- Written by a program of this session (wip/tools/pp.sh) out of the translation; Lean checks it.
import Derived.Test.YthaonijhfeemfaaPFnWalksEndFullx20
import Derived.Test.YthaonijhfeemfaaPFnWalksEndFullx21
namespace Go.Proofs.Ythaonijhfeemfaa.dL
open Go.RowKit Go.Proofs.YthaonijhfeemfaaOwn Go.Proofs.YthaonijhfeemfaaW.bU Go.Proofs.YthaonijhfeemfaaW.fB Go.Proofs.YthaonijhfeemfaaW.iw
attribute [local go_sem] nG nH nK nL nD nE nI nJ   -- for this text's walks alone
set_option linter.unusedVariables false
set_option maxHeartbeats 8000000
set_option maxRecDepth 100000
set_option linter.unusedSimpArgs false

def bq.mark : List Bool→List Int→Option (List Bool)
 | b,[]=>some b
 | b,x :: r=>if 0 ≤ x∧x < (b.length : Int) then bq.mark (b.set x.toNat true) r else none
def bq.g1 (k : Nat) (n : Int) (L : List Int) (C : List (List Int)) (B : List Int) : List (List Int)→List Bool→Option (List Bool)
 | [],b=>some b
 | s :: r,b=>if 1 < s.length then (jB.f k n L C B (rd s 0) (rd s 1)).bind fun t=>if t.1.length ≤ 1000000 then (bq.mark b t.1).bind fun b'=>bq.g1 k n L C B r b' else none else none
def bq.g2 (k : Nat) (n : Int) (L : List Int) (C : List (List Int)) (B : List Int) : List Int→List Bool→Option (List Bool)
 | [],b=>some b
 | c :: r,b=>(qE.f k n L C B c).bind fun t=>if t.1.length ≤ 1000000 then (bq.mark b t.1).bind fun b'=>bq.g2 k n L C B r b' else none
def bq.g3 (k : Nat) (n : Int) (L : List Int) (C : List (List Int)) (B : List Int) (b : List Bool) : Nat→Nat→Int→Option Int
 | 0,_,c=>some c
 | d + 1,i,c=>if b.getD i false = true then bq.g3 k n L C B b d (i + 1) c else (dV.f k n L C B (i : Int)).bind fun D=>bq.g3 k n L C B b d (i + 1) (if (D.length : Int) = 2 then wrap64 (c + 1) else c)
def bq.f (k : Nat) (a0 : Int) (l1 : List Int) : Option (Int × Bool):=(iP.f k a0 l1).bind fun t=>if t.2.2.2.2 = true then (if 0 < t.2.2.1.length∧t.2.2.1.length ≤ 1000000 then
  (jO.f k t.1 t.2.1 t.2.2.1 t.2.2.2.1).bind fun E=>if E.length ≤ 1000000 then (bq.g1 k t.1 t.2.1 t.2.2.1 t.2.2.2.1 E (List.replicate t.2.2.1.length false)).bind fun b1 =>
   (jX.f k t.1 t.2.1 t.2.2.1 t.2.2.2.1).bind fun F=>if F.length ≤ 1000000 then (bq.g2 k t.1 t.2.1 t.2.2.1 t.2.2.2.1 F b1).bind fun b2 =>
    (bq.g3 k t.1 t.2.1 t.2.2.1 t.2.2.2.1 b2 t.2.2.1.length 0 0).bind fun c=>some (c,true) else none else none else none) else some (0,false)
theorem bq.aiQ (k : Nat) (n : Int) (L : List Int) (C : List (List Int)) (B : List Int) : ∀ E b,LeO (bq.g1 k n L C B E b) (bq.g1 (k + 1) n L C B E b)
 | [],b=>LeO.refl _
 | s :: r,b=>by
  rw [bq.g1,bq.g1]
  exact LeO.ite (LeO.bind (jB.mono _ _ _ _ _ _ _) (fun _=>LeO.ite (LeO.bind (LeO.refl _) (fun _=>bq.aiQ k n L C B r _)) (LeO.refl _))) (LeO.refl _)
theorem bq.aiR (k : Nat) (n : Int) (L : List Int) (C : List (List Int)) (B : List Int) : ∀ E b,LeO (bq.g2 k n L C B E b) (bq.g2 (k + 1) n L C B E b)
 | [],b=>LeO.refl _
 | s :: r,b=>by
  rw [bq.g2,bq.g2]
  exact LeO.bind (qE.mono _ _ _ _ _ _) (fun _=>LeO.ite (LeO.bind (LeO.refl _) (fun _=>bq.aiR k n L C B r _)) (LeO.refl _))
theorem bq.aaE (k : Nat) (n : Int) (L : List Int) (C : List (List Int)) (B : List Int) (b : List Bool) : ∀ d i c,LeO (bq.g3 k n L C B b d i c) (bq.g3 (k + 1) n L C B b d i c)
 | 0,i,c=>LeO.refl _
 | d + 1,i,c=>by
  rw [bq.g3,bq.g3]
  exact LeO.ite (bq.aaE k n L C B b d _ _) (LeO.bind (dV.mono _ _ _ _ _ _) (fun _=>bq.aaE k n L C B b d _ _))
theorem bq.mono : ∀ a0 a1 k,LeO (bq.f k a0 a1) (bq.f (k + 1) a0 a1):=by
 intro a0 a1 k;unfold bq.f;exact LeO.bind (iP.mono _ _ _) (fun _=>LeO.ite (LeO.ite (LeO.bind (jO.mono _ _ _ _ _) (fun _=>LeO.ite (LeO.bind (bq.aiQ _ _ _ _ _ _ _) (fun _=>LeO.bind (jX.mono _ _ _ _ _) (fun _=>LeO.ite (LeO.bind (bq.aiR _ _ _ _ _ _ _) (fun _=>LeO.bind (bq.aaE _ _ _ _ _ _ _ _ _) (fun _=>LeO.refl _))) (LeO.refl _)))) (LeO.refl _))) (LeO.refl _)) (LeO.refl _))
theorem bq.Zt : ∀ (l : List Int) (b b' : List Bool),bq.mark b l = some b'→b'.length = b.length
 | [],b,b',h=>by rw [bq.mark] at h;rw [Option.some.inj h]
 | x :: r,b,b',h=>by
  rw [bq.mark] at h
  by_cases c : 0 ≤ x∧x < (b.length : Int)
  ·rw [if_pos c] at h
   rw [bq.Zt r _ _ h,List.length_set]
  ·rw [if_neg c] at h;cases h
theorem bq.nxt {t : Nat} (h : t ≤ 1000000) : Value.int .i64 (wrap64 ((t : Int) + 1)) = .int .i64 ((t + 1 : Nat) : Int):=by
 congr 1;unfold wrap64;omega
structure bq.Row (W : World) (g8 gs cap : Nat) (b : List Bool) : Prop where
 box : W.heap[g8]? = some (.cells #[.slice (some ⟨gs,0,none⟩) b.length cap] 60 (0,0))
 row : ∃ cur : Array Value,W.heap[gs]? = some (.cells cur 4 (0,0))∧b.length ≤ cur.size∧∀ (j : Nat) (x : Bool),b[j]? = some x→cur[j]? = some (.bool x)
 ne : gs≠g8
theorem bq.Row.below {W W' : World} {g8 gs cap : Nat} {b : List Bool} (h : bq.Row W g8 gs cap b) (hb : Below W.heap.size W W') : bq.Row W' g8 gs cap b:=by
 obtain ⟨cur,h1,h2,h3⟩:=h.row;exact ⟨(hb.block _ (jH h.box)).trans h.box,⟨cur,(hb.block _ (jH h1)).trans h1,h2,h3⟩,h.ne⟩
theorem bq.see {A : Option Addr} {c : Nat} {l : List Int} {W : World} {g8 gs cap : Nat} {b b' : List Bool} (hK : ∀ W',Kept W W' (fun k=>k = gs)→Kd.C (Kd.int .i64) W' A l.length l) (hl : l.length ≤ 1000000) (hR : bq.Row W g8 gs cap b) (hm : bq.mark b l = some b') :
  Calls Try.prog 41 #[.slice A l.length c,.pointer (some ⟨g8,0,none⟩)] W fun e W'=>e = .returned (.tuple #[])∧(W'.os = W.os∧W'.tape = W.tape∧W'.output = W.output)∧Kept W W' (fun k=>k = gs)∧bq.Row W' g8 gs cap b':=by
 have HK:=AM hK;have HL:=AM hl;have HR:=AM hR;have HM:=AM hm;clear hK hl hR hm;go_enter Try.func41,Try.ntmps41;go_wp2;go_loopg [7] l.length (fun gg v7 wr=>∃ (t : Nat) (bt : List Bool),v7 = .int .i64 (t : Int)∧t ≤ l.length∧l.length - t ≤ gg∧ak (bq.mark bt (l.drop t) = some b')∧ak (wr.os = W.os∧wr.tape = W.tape∧wr.output = W.output)∧ak (Kept W wr (fun k=>k = gs))∧ak (bq.Row wr g8 gs cap bt))
 case atStart=>exact ⟨0,b,rfl,Nat.zero_le _,by omega,⟨by rw [List.drop_zero];exact HM.out⟩,⟨rfl,rfl,rfl⟩,⟨Kept.refl _ _⟩,HR⟩
 case round =>
  obtain ⟨t,bt,rfl,ht,hg,HM1,HO,HK1,HR1⟩:=hrel;by_cases hlt : t < l.length
  ·have hltz : (t : Int) < (l.length : Int):=by omega
   have hm1:=HM1.out;rw [List.drop_eq_getElem_cons hlt,bq.mark] at hm1
   have er : rd l (t : Int) = l[t]:=by
    unfold rd;rw [Int.toNat_natCast,List.getD_eq_getElem?_getD,List.getElem?_eq_getElem hlt];rfl
   rw [← er] at hm1;obtain ⟨ad,eA,hx⟩:=Kd.aN (HK.out wr HK1.out) (t : Int) (by omega) hltz;subst eA;rw [Int.toNat_natCast] at hx;obtain ⟨x,hx0⟩ : ∃ x : Int,x = rd l (t : Int):=⟨_,rfl⟩;rw [← hx0] at hm1 hx;clear er;by_cases cx : 0 ≤ x∧x < (bt.length : Int)
   ·rw [if_pos cx] at hm1;have HM2:=AM hm1;clear hm1 hx0;obtain ⟨cur,hr1,hr2,hr3⟩:=HR1.out.row;have p1 : (0 ≤ (t : Int)) = True:=ET (by omega);have q1 : ((t : Int) < (l.length : Int)) = True:=ET hltz;have p2 : (0 ≤ x) = True:=ET cx.1;have q2 : (x < (bt.length : Int)) = True:=ET cx.2;have hxn : x.toNat < cur.size:=by omega
    have z8 : wr.cell? ⟨g8,0,none⟩ = some (.slice (some ⟨gs,0,none⟩) bt.length cap):=(BC HR1.out.box 0).trans rfl;have zs : wr.cell? ⟨gs,x.toNat,none⟩ = some (cur.getD x.toNat undef):=by rw [BC hr1,Array.getElem?_eq_getElem hxn];simp [Array.getD,hxn]
    have zf : wr.frozen? ⟨gs,x.toNat,none⟩ = false:=BF hr1 _;have HH:=AM (And.intro hr1 (And.intro hr2 hr3));have HX:=AM cx;clear hr1 hr2 hr3 hxn cx;go_wp2;go_roundg (l.length - (t + 1))
    case measure=>omega
    case rel =>
     have hl_:=HL.out;obtain ⟨h1,h2,h3⟩:=HH.out;have hne:=HR1.out.ne;refine ⟨t + 1,bt.set x.toNat true,bq.nxt (by omega),by omega,by omega,HM2,⟨HO.out⟩,⟨HK1.out.setCell (.inl rfl) _⟩,⟨⟨?_,⟨cur.setIfInBounds x.toNat (.bool true),Ia h1 _ _,by simpa using h2,fun j y hj=>?_⟩,hne⟩⟩⟩
     ·rw [List.length_set];exact aiM HR1.out.box (fun e=>hne e.symm) _
     ·by_cases e : j = x.toNat
      ·subst e;have hjl : x.toNat < bt.length:=by have:=HX.out;omega
       rw [List.getElem?_set_self hjl] at hj;rw [Array.getElem?_setIfInBounds_self_of_lt (by omega),← Option.some.inj hj]
      ·rw [List.getElem?_set_ne (fun e2=>e e2.symm)] at hj;rw [Array.getElem?_setIfInBounds_ne (fun e2=>e e2.symm)];exact h3 j y hj
   ·rw [if_neg cx] at hm1;cases hm1
  ·have hltz : ¬ (t : Int) < (l.length : Int):=by omega
   have e : t = l.length:=by omega
   have hm1:=HM1.out;rw [List.drop_eq_nil_of_le (by omega),bq.mark] at hm1;obtain rfl:=Option.some.inj hm1;go_wp2;go_end0;exact ⟨rfl,HO.out,HK1.out,HR1.out⟩
theorem bq.own {w : World} {base : Nat} {ok : Nat→Prop} {v : Value} {xs : List Bool} (hS : Kd.R Kd.bool 4 w base ok v xs) (hpos : 0 < xs.length) :
  ∃ blk cap cur,v = .slice (some ⟨blk,0,none⟩) xs.length cap∧base ≤ blk∧w.heap[blk]? = some (.cells cur 4 (0,0))∧xs.length ≤ cur.size∧∀ (j : Nat) (x : Bool),xs[j]? = some x→cur[j]? = some (.bool x):=by
 obtain ⟨h0,inner,ho,hr⟩:=hS;obtain ⟨hlen,⟨rfl,hn⟩|⟨blk,cap,cur,rfl,hge,hblk,hcap,hmax,hsz,htake⟩⟩:=ho
 ·omega
 ·have e1 : Kd.bool.sz = 1:=rfl;rw [e1] at hsz htake;rw [Nat.mul_one] at htake;refine ⟨blk,cap,cur,rfl,hge,hblk,by omega,fun j x hx=>?_⟩;have hu : (inner.drop (j * 1)).take 1 = [.bool x]:=hr.2 j x hx;have hlt : j < xs.length:=(List.getElem?_eq_some_iff.1 hx).1;rw [Nat.mul_one] at hu
  have h3 : inner[j]? = some (.bool x):=by
   have:=congrArg (fun l=>l[0]?) hu;simpa [List.getElem?_take_of_lt,List.getElem?_drop] using this
  rw [← htake,List.getElem?_take_of_lt hlt] at h3;rw [← Array.getElem?_toList];exact h3
theorem bq.stays {α : Type} {d : Kd α} {e : TypeId} {W : World} {base gs n c : Nat} {ok : Nat→Prop} {A : Option Addr} {xs : List α} (h : d.R e W base ok (.slice A n c) xs) (hg : gs < base) : ∀ W',Kept W W' (fun k=>k = gs)→d.C W' A n xs :=
 Kd.aoi (Kd.yE h) (fun k hk e_=>by have:=hk.2.1;omega)
theorem bq.over {B : Nat} {w W W' : World} {gs : Nat} (h : Below B w W) (hg : B ≤ gs) (ho : W'.os = W.os∧W'.tape = W.tape∧W'.output = W.output) (hk : Kept W W' (fun k=>k = gs)) (hB : B ≤ W.heap.size) : Below B w W' :=
 ⟨ho.1.trans h.os,ho.2.1.trans h.tape,ho.2.2.trans h.output,Nat.le_trans h.size hk.1,fun q hq=>(hk.2 q (by omega) (by omega)).trans (h.block q hq)⟩
def bq.T9 : Bool × List (List Nat × List Nat):=(true,[([],[]),([],[]),([1],[1]),([2],[2]),([],[]),([4],[4]),([5],[5]),([0,3,6],[0,3,6]),([7],[7]),([8],[8]),([8],[8]),([8],[8]),([9,7,0,1,2,3,4,5,6,7,8,9],[9]),([10,12,0,1,2,3,4,5,6,7,8,9,10,12],[10]),([11,13,0,1,2,3,4,5,6,7,8,9,10,11,12,13],[11])])
def bq.B9 : List Nat:=[0,0,2,6,0,16,48,127,255,511,511,511,1023,6143,16383]
theorem bq.KY : fC .any (opsOf Try.f17 9) = bq.T9:=by kernel_rfl
theorem bq.JB : lN bq.T9.2 bq.B9 = true:=by kernel_rfl
theorem bq.parts {k : Nat} {a0 : Int} {l1 : List Int} {r1 : Int} {r2 : Bool} (h : bq.f k a0 l1 = some (r1,r2)) : ∃ hn hl hc hbd ok,iP.f k a0 l1 = some (hn,hl,hc,hbd,ok)∧((ok = false∧r1 = 0∧r2 = false) ∨ (ok = true∧0 < hc.length∧hc.length ≤ 1000000∧r2 = true ∧
  ∃ E b1 F b2,jO.f k hn hl hc hbd = some E∧E.length ≤ 1000000∧bq.g1 k hn hl hc hbd E (List.replicate hc.length false) = some b1∧jX.f k hn hl hc hbd = some F∧F.length ≤ 1000000∧bq.g2 k hn hl hc hbd F b1 = some b2∧bq.g3 k hn hl hc hbd b2 hc.length 0 0 = some r1)):=by
 unfold bq.f at h;obtain ⟨⟨hn,hl,hc,hbd,ok⟩,ht,h2⟩:=Option.bind_eq_some_iff.mp h;refine ⟨hn,hl,hc,hbd,ok,ht,?_⟩;cases ok with
 | false =>
  have h3:=(if_neg (show ¬ (false = true) by decide)).symm.trans h2;have h4:=Option.some.inj h3;injection h4 with e1 e2
  exact .inl ⟨rfl,e1.symm,e2.symm⟩
 | true =>
  have h3:=(if_pos (show true = true from rfl)).symm.trans h2;by_cases hp : 0 < hc.length∧hc.length ≤ 1000000
  ·have h4:=(if_pos hp).symm.trans h3;obtain ⟨E,hE,h5⟩:=Option.bind_eq_some_iff.mp h4;by_cases hp2 : E.length ≤ 1000000
   ·have h6:=(if_pos hp2).symm.trans h5;obtain ⟨b1,hb1,h7⟩:=Option.bind_eq_some_iff.mp h6;obtain ⟨F,hF,h8⟩:=Option.bind_eq_some_iff.mp h7;by_cases hp3 : F.length ≤ 1000000
    ·have h9:=(if_pos hp3).symm.trans h8;obtain ⟨b2,hb2,h10⟩:=Option.bind_eq_some_iff.mp h9;obtain ⟨c,hcc,h11⟩:=Option.bind_eq_some_iff.mp h10;have h12:=Option.some.inj h11;injection h12 with e1 e2
     exact .inr ⟨rfl,hp.1,hp.2,e2.symm,E,b1,F,b2,hE,hp2,hb1,hF,hp3,hb2,by rw [← e1];exact hcc⟩
    ·have:=(if_neg hp3).symm.trans h8;cases this
   ·have:=(if_neg hp2).symm.trans h5;cases this
  ·have:=(if_neg hp).symm.trans h3;cases this
theorem bq.five {w1 w3 w4 w5 : World} {g6 g8 gs cap n : Nat} {o : Obj} {cur : Array Value} {xs : List Bool} (hx8 : w4.heap[g8]? = some (.cells #[.slice none 0 0] 60 (0,0))) (hb4 : Below w3.heap.size w3 w4) (ge8 : w3.heap.size ≤ g8) (hb3 : Below w1.heap.size w1 w3) (hx6 : w3.heap[g6]? = some o) (hgs : w1.heap.size ≤ gs)
  (hxs : w3.heap[gs]? = some (.cells cur 4 (0,0))∧xs.length ≤ cur.size∧∀ (j : Nat) (x : Bool),xs[j]? = some x→cur[j]? = some (.bool x)) (hw : w5 = w4.setCell ⟨g8,0,none⟩ (.slice (some ⟨gs,0,none⟩) n cap)) : w5.heap[g6]? = some o∧Below w1.heap.size w1 w5∧(xs.length = n→bq.Row w5 g8 gs cap xs)∧gs < w5.heap.size:=by
 obtain ⟨h1,h2,h3⟩:=hxs;have l6 : g6 < w3.heap.size:=(Array.getElem?_eq_some_iff.1 hx6).1;have ls : gs < w3.heap.size:=jH h1;have far : ∀ q,q≠g8→w5.heap[q]? = w4.heap[q]?:=fun q hq=>by rw [hw];exact Below.heap_setCell w4 ⟨g8,0,none⟩ _ q hq
 refine ⟨(far g6 (by omega)).trans ((hb4.block g6 l6).trans hx6),?_,fun e=>⟨?_,⟨cur,(far gs (by omega)).trans ((hb4.block gs ls).trans h1),h2,h3⟩,by omega⟩,?_⟩
 ·rw [hw];exact eF (jF hb3 hb4) (Nat.le_trans hb3.size ge8)
 ·rw [hw,e];exact Ia hx8 0 _
 ·rw [hw];have:=hb4.size;have e : (w4.setCell ⟨g8,0,none⟩ (.slice (some ⟨gs,0,none⟩) n cap)).heap.size = w4.heap.size:=by simp [World.setCell]
  omega
theorem bq.acS {W wd : World} {g8 gs cap : Nat} {b : List Bool} (h : bq.Row W g8 gs cap b) (hs : W.heap.size ≤ wd.heap.size) : gs < wd.heap.size:=by
 obtain ⟨cur,h1,_⟩:=h.row;exact Nat.lt_of_lt_of_le (jH h1) hs
set_option maxHeartbeats 16000000 in
set_option maxRecDepth 100000 in
theorem bq.calls (k : Nat) (a0 : Int) (A1 : Option Addr) (c1 : Nat) (l1 : List Int) (r1 : Int) (r2 : Bool) (w : World) (hr1 : Kd.C (Kd.int .i64) w A1 l1.length l1) (hc1 : l1.length ≤ c1) (h : bq.f k a0 l1 = some (r1,r2)) :
  Calls Try.prog 17 #[.int .i64 a0,.slice A1 l1.length c1] w fun e w'=>e = .returned (.tuple #[.int .i64 r1,.bool r2])∧Below w.heap.size w w':=by
 have hu:=Try.underlying43;have HR1:=AM hr1;have HC1:=AM hc1;clear hr1 hc1;obtain ⟨hn,hl,hc,hbd,ok,ht,h2⟩:=bq.parts h;clear h;have HT:=AM ht;clear ht;rcases h2 with ⟨rfl,rfl,rfl⟩|⟨rfl,hp1,hp2,rfl,E,b1,F,b2,hE,hEl,hb1,hF,hFl,hb2,h3⟩
 ·go_enter Try.func17,Try.ntmps17
  go_wp2_with (first
   | (go_at_call 22;refine (iP.calls k a0 (fun k_=>k_ < w.heap.size) A1 c1 l1 hn hl hc hbd false w (Kd.sW HC1.out (Kd.C_F (Kd.qW .i64) HR1.out)) HT.out).mono ?_;rintro e w1 ⟨v1,v2,v3,rfl,h1,h2,h3,hb⟩;obtain ⟨A2,c2,e2⟩:=Kd.qy h1;subst e2;obtain ⟨A3,c3,e3⟩:=Kd.jC h2;subst e3;obtain ⟨A4,c4,e4⟩:=Kd.bG h3;subst e4;have HL:=AM (Kd.gN h1);have HCC:=AM (Kd.bW h2);have HBD:=AM (Kd.aA h3);have HB1:=AM hb;clear h1 h2 h3 hb)
   | ((with_reducible refine dG (N:=6) rfl ?_);refine gq ?hg (N:=6) ?hd (cs:=#[.int .i64 0,.slice none 0 0,.slice none 0 0,.slice none 0 0]) (t:=43) ?hr ?_;(case hd=>rfl);(case hg=>rfl);(case hr=>exact GS);intro g6 hg w2 aJ hb;have HX6:=AM aJ;have HB2:=AM hb;have GE6:=AM (Nat.le_of_eq hg.symm : w1.heap.size ≤ g6);have zb0 : w2.cell? ⟨g6,0,none⟩ = some (.int .i64 0):=(BC aJ 0).trans rfl;have zb1 : w2.cell? ⟨g6,1,none⟩ = some (.slice none 0 0):=(BC aJ 1).trans rfl;have zb2 : w2.cell? ⟨g6,2,none⟩ = some (.slice none 0 0):=(BC aJ 2).trans rfl;have zb3 : w2.cell? ⟨g6,3,none⟩ = some (.slice none 0 0):=(BC aJ 3).trans rfl;have fb0:=BF aJ 0;have fb1:=BF aJ 1;have fb2:=BF aJ 2;have fb3:=BF aJ 3;clear aJ hb hg))
  go_ret2;refine ⟨rfl,?_⟩;have hb2:=HB2.out;repeat (first|exact jF HB1.out hb2|apply jE|apply kr|apply fA|refine eF ?_ (Nat.le_trans HB1.out.size GE6.out))
 ·have HE:=AM hE;have HG1:=AM hb1;have HF:=AM hF;have HG2:=AM hb2;have HG3:=AM h3;have HEL:=AM hEl;have HFL:=AM hFl;clear hE hb1 hF hb2 h3 hEl hFl;go_enter Try.func17,Try.ntmps17
  go_wp2_with (first
   | (go_at_call 22;refine (iP.calls k a0 (fun k_=>k_ < w.heap.size) A1 c1 l1 hn hl hc hbd true w (Kd.sW HC1.out (Kd.C_F (Kd.qW .i64) HR1.out)) HT.out).mono ?_;rintro e w1 ⟨v1,v2,v3,rfl,h1,h2,h3,hb⟩;obtain ⟨A2,c2,e2⟩:=Kd.qy h1;subst e2;obtain ⟨A3,c3,e3⟩:=Kd.jC h2;subst e3;obtain ⟨A4,c4,e4⟩:=Kd.bG h3;subst e4;have HL:=AM (Kd.gN h1);have HCC:=AM (Kd.bW h2);have HBD:=AM (Kd.aA h3);have HB1:=AM hb;clear h1 h2 h3 hb)
   | ((with_reducible refine dG (N:=6) rfl ?_);refine gq ?hg (N:=6) ?hd (cs:=#[.int .i64 0,.slice none 0 0,.slice none 0 0,.slice none 0 0]) (t:=43) ?hr ?_;(case hd=>rfl);(case hg=>rfl);(case hr=>exact GS);intro g6 hg w2 aJ hb;have HX6:=AM aJ;have HB2:=AM hb;have GE6:=AM (Nat.le_of_eq hg.symm : w1.heap.size ≤ g6);have zb0 : w2.cell? ⟨g6,0,none⟩ = some (.int .i64 0):=(BC aJ 0).trans rfl;have zb1 : w2.cell? ⟨g6,1,none⟩ = some (.slice none 0 0):=(BC aJ 1).trans rfl;have zb2 : w2.cell? ⟨g6,2,none⟩ = some (.slice none 0 0):=(BC aJ 2).trans rfl;have zb3 : w2.cell? ⟨g6,3,none⟩ = some (.slice none 0 0):=(BC aJ 3).trans rfl;have fb0:=BF aJ 0;have fb1:=BF aJ 1;have fb2:=BF aJ 2;have fb3:=BF aJ 3;clear aJ hb hg)
   | ((with_reducible refine dG (N:=32) rfl ?_);refine Kd.ajO Kd.bool _ 4 rfl (N:=32) rfl 60 _ _ rfl (hc.length : Int) rfl rfl Try.underlying60 (.bool false) 1 akt rfl (by decide) (by omega) false (ok:=fun _=>True) (okp:=fun _=>True) rfl (fun _ hk=>hk) trivial (by omega) (by omega) (Below.refl _ _) (Nat.le_refl _) ?_;intro v3 w3 ho hb hg_ eY;clear hg_ eY;have hx6:=eU (g:=g6) (o:=.cells #[.int .i64 hn,.slice A2 hl.length c2,.slice A3 hc.length c3,.slice A4 hbd.length c4] 43 (0,0)) (by (with_reducible repeat (first|refine bZ ?_ _|refine bL ?_|refine bV ?_ _));refine fE (cs:=#[.int .i64 hn,.slice A2 hl.length c2,.slice A3 hc.length c3,.slice none 0 0]) ?_ 3 _ rfl;(with_reducible repeat (first|refine bZ ?_ _|refine bL ?_|refine bV ?_ _));refine fE (cs:=#[.int .i64 hn,.slice A2 hl.length c2,.slice none 0 0,.slice none 0 0]) ?_ 2 _ rfl;(with_reducible repeat (first|refine bZ ?_ _|refine bL ?_|refine bV ?_ _));refine fE (cs:=#[.int .i64 hn,.slice none 0 0,.slice none 0 0,.slice none 0 0]) ?_ 1 _ rfl;(with_reducible repeat (first|refine bZ ?_ _|refine bL ?_|refine bV ?_ _));refine fE (cs:=#[.int .i64 0,.slice none 0 0,.slice none 0 0,.slice none 0 0]) ?_ 0 _ rfl;(with_reducible repeat (first|refine bZ ?_ _|refine bL ?_|refine bV ?_ _));exact HX6.out) hb;have hb3:=jF (by repeat (first|exact (jF (Below.refl _ _) HB2.out)|apply jE|apply kr|apply fA|refine eF ?_ GE6.out) : Below w1.heap.size w1 _) hb;obtain ⟨gs,cap,cur,e3,hge,hxs,hsz,hcur⟩:=bq.own ho (by rw [List.length_replicate];omega);subst e3;have ayi:=AM hx6;have HB3:=AM hb3;have HGS:=AM (show w1.heap.size ≤ gs from Nat.le_trans (by have:=HB2.out.size;first|exact this|(simp only [World.setCell,Array.size_modify];exact this)|simpa [World.setCell] using this) hge);have amO:=AM (show g6≠gs from fun e_=>by have h_:=jH HX6.out;rw [e_] at h_;have h2_ : w2.heap.size ≤ gs:=(by first|exact hge|(simpa [World.setCell] using hge));omega);have HXS:=AM (And.intro hxs (And.intro hsz hcur));have en : (List.replicate (hc.length : Int).toNat false).length = hc.length:=(by simp);rw [en];clear ho hb hx6 hb3 hge hxs hsz hcur zb0 zb1 zb2 zb3 fb0 fb1 fb2 fb3)
   | ((with_reducible refine dG (N:=8) rfl ?_);refine gq ?hg (N:=8) ?hd (cs:=#[.slice none 0 0]) (t:=60) ?hr ?_;(case hd=>rfl);(case hg=>rfl);(case hr=>exact GS);intro g8 hg w4 aJ hb;have HX8:=AM aJ;have HB4:=AM hb;have GE8:=AM (Nat.le_of_eq hg.symm : w3.heap.size ≤ g8);have z8 : w4.cell? ⟨g8,0,none⟩ = some (.slice none 0 0):=(BC aJ 0).trans rfl;have f8 : w4.frozen? ⟨g8,0,none⟩ = false:=BF aJ 0;clear aJ hb hg)
   | ((with_reducible refine H8 (t:=60) (p:=8) rfl ?_);refine H7 (t:=60) (p:=8) (v:=.tmp 32) (w1:=w4.setCell ⟨g8,0,none⟩ (.slice (some ⟨gs,0,none⟩) hc.length cap)) ?hg ?ho ?hn ?hr ?_;(case ho=>rfl);(case hg=>rfl);(case hn=>rfl);(case hr=>exact GS);intro w5 hw;have HF5:=AM (bq.five HX8.out HB4.out GE8.out HB3.out ayi.out HGS.out HXS.out hw);clear hw z8 f8;have zz0 : w5.cell? ⟨g6,0,none⟩ = some (.int .i64 hn):=(BC HF5.out.1 0).trans rfl;have zz1 : w5.cell? ⟨g6,1,none⟩ = some (.slice A2 hl.length c2):=(BC HF5.out.1 1).trans rfl;have zz2 : w5.cell? ⟨g6,2,none⟩ = some (.slice A3 hc.length c3):=(BC HF5.out.1 2).trans rfl;have zz3 : w5.cell? ⟨g6,3,none⟩ = some (.slice A4 hbd.length c4):=(BC HF5.out.1 3).trans rfl)
   | (go_at_call 29;refine (jO.calls k hn A2 c2 hl A3 c3 hc A4 c4 hbd E w5 (Kd.aQ HL.out.2.2 HF5.out.2.1) HL.out.2.1 (Kd.aQ HCC.out.2.2 HF5.out.2.1) HCC.out.2.1 (Kd.aQ HBD.out.2.2 HF5.out.2.1) HBD.out.2.1 HE.out).mono ?_;rintro e w6 ⟨v6,rfl,hS,hb⟩;obtain ⟨A6,c6,e6⟩:=Kd.jC hS;subst e6;have HRE:=AM (Kd.S_R hS);have HB6:=AM hb;clear hS hb zz0 zz1 zz2 zz3))
  have HP:=AM (And.intro hp1 hp2);have ayj:=AM (HF5.out.2.2.1 (by simp));have amP:=AM ((HB6.out.block g6 (jH HF5.out.1)).trans HF5.out.1);have HR6:=AM (ayj.out.below HB6.out);have HG6:=AM (jF HF5.out.2.1 HB6.out);have HGL:=AM HF5.out.2.2.2;clear hp1 hp2;go_loopg [37] E.length (fun gg v37 wr=>∃ (t : Nat) (b : List Bool),v37 = .int .i64 (t : Int)∧t ≤ E.length∧E.length - t ≤ gg∧ak (bq.g1 k hn hl hc hbd (E.drop t) b = some b1)∧ak (Below w1.heap.size w1 wr)∧ak (Kept w6 wr (fun k_=>k_ = gs))∧ak (bq.Row wr g8 gs cap b)∧ak (b.length = hc.length))
  case atStart=>exact ⟨0,_,rfl,Nat.zero_le _,by omega,⟨by rw [List.drop_zero];first|exact HG1.out|(simp only [Int.toNat_natCast];exact HG1.out)⟩,HG6,⟨Kept.refl _ _⟩,HR6,⟨by simp⟩⟩
  case round =>
   obtain ⟨t,b,rfl,ht,hg,HM,HG,HK,HR,HLN⟩:=hrel;have hx6:=(HK.out.2 g6 (jH amP.out) (fun e_=>amO.out e_)).trans amP.out;by_cases hlt : t < E.length
   ·have hltz : (t : Int) < (E.length : Int):=by omega
    have hm:=HM.out;rw [List.drop_eq_getElem_cons hlt,bq.g1] at hm
    have er : ah E (t : Int) = E[t]:=by
     unfold ah;rw [Int.toNat_natCast,List.getD_eq_getElem?_getD,List.getElem?_eq_getElem hlt];rfl
    rw [← er] at hm;obtain ⟨ad6,As,cs,e6,hx,hls,his⟩:=gT (bq.stays HRE.out HGL.out wr HK.out) (t : Int) (by omega) hltz;subst e6;rw [Int.toNat_natCast] at hx;obtain ⟨s,hs⟩ : ∃ s : List Int,s = ah E (t : Int):=⟨_,rfl⟩;rw [← hs] at hm hx hls his;clear er hs;by_cases c1 : 1 < s.length
    ·rw [if_pos c1] at hm;obtain ⟨⟨x1,x2,x3⟩,hen,hm⟩:=Option.bind_eq_some_iff.mp hm;by_cases c2 : x1.length ≤ 1000000
     ·replace hm:=(if_pos c2).symm.trans hm;obtain ⟨b',hmk,hm⟩:=Option.bind_eq_some_iff.mp hm;have HEN:=AM hen;have HMK:=AM hmk;have HM2:=AM (show bq.g1 k hn hl hc hbd (E.drop (t + 1)) b' = some b1 from hm);have HX1:=AM c2;clear hen hmk hm c2;have p1 : (0 ≤ (t : Int)) = True:=ET (by omega);have q1 : ((t : Int) < (E.length : Int)) = True:=ET hltz;have p2 : (0 < s.length) = True:=ET (by omega);have p3 : (1 < s.length) = True:=ET c1;have p4 : ((0 : Int) < (s.length : Int)) = True:=ET (by omega);have p5 : ((1 : Int) < (s.length : Int)) = True:=ET (by omega);obtain ⟨adS,eS,hs0⟩:=Kd.aN his 0 (by decide) (by omega);subst eS;obtain ⟨ayk,eS,hs1⟩:=Kd.aN his 1 (by decide) (by omega);obtain rfl : adS = ayk:=by injection eS
      clear eS
      (try rw [show ((0 : Int)).toNat = 0 from rfl] at hs0)
      (try rw [Addr.add_zero'] at hs0)
      (try simp only [show (1 : Int).toNat = 1 from rfl,Nat.reduceMul,Nat.reduceEqDiff,Go.Addr.add,↓reduceIte] at hs1);have z0 : wr.cell? ⟨g6,0,none⟩ = some (.int .i64 hn):=(BC hx6 0).trans rfl;have z1 : wr.cell? ⟨g6,1,none⟩ = some (.slice A2 hl.length c2):=(BC hx6 1).trans rfl;have z2 : wr.cell? ⟨g6,2,none⟩ = some (.slice A3 hc.length c3):=(BC hx6 2).trans rfl;have z3 : wr.cell? ⟨g6,3,none⟩ = some (.slice A4 hbd.length c4):=(BC hx6 3).trans rfl;have HD:=AM (fA (Below.refl wr.heap.size wr));have HTT:=AM (And.intro ht (And.intro hg hlt));have HIS:=AM his;clear hx6 his c1 ht hg hlt;try go_wp2
      refine PSt (n:=15) (S:=fun w'=>w'.cell? ⟨g6,0,none⟩ = some (.int .i64 hn)∧w'.cell? ⟨g6,1,none⟩ = some (.slice A2 hl.length c2)∧w'.cell? ⟨g6,2,none⟩ = some (.slice A3 hc.length c3)∧w'.cell? ⟨g6,3,none⟩ = some (.slice A4 hbd.length c4)∧w'.cell? adS = some (.int .i64 (rd s 0))∧w'.cell? ⟨adS.block,adS.off + 1,none⟩ = some (.int .i64 (rd s 1))) (ds:=[]) ⟨z0,z1,z2,z3,hs0,hs1⟩ (fun hHeld=>?_);refine lK bq.KY bq.JB (fun HT_ HW_=>?_);generalize wr.drew = wd at HD hHeld ⊢;refine PA 1 43 HT_ ?_;refine PA 2 44 HT_ ?_;refine PA 4 46 HT_ ?_;refine PA 5 47 HT_ ?_;refine PB 0 42 HT_ HW_ hHeld ?_;refine PB 3 45 HT_ HW_ hHeld ?_;refine PB 6 48 HT_ HW_ hHeld ?_;refine PC 7 49 HT_ (fun K hK=>?_);refine iL Try.func24 (by kernel_rfl) rfl #[.agg #[.int .i64 hn,.slice A2 hl.length c2,.slice A3 hc.length c3,.slice A4 hbd.length c4],.int .i64 (rd s 0),.int .i64 (rd s 1)] (by rfl) rfl rfl TA ?_;refine (jB.calls k hn A2 c2 hl A3 c3 hc A4 c4 hbd (rd s 0) (rd s 1) x1 x2 x3 wd (Kd.aQ HL.out.2.2 (jF HG.out HD.out)) HL.out.2.1 (Kd.aQ HCC.out.2.2 (jF HG.out HD.out)) HCC.out.2.1 (Kd.aQ HBD.out.2.2 (jF HG.out HD.out)) HBD.out.2.1 HEN.out).mono ?_;rintro e w7 ⟨v7,v7',rfl,ho0,ho1,hb⟩;have HS_:=And.intro (LD hb hHeld.1) (And.intro (LD hb hHeld.2.1) (And.intro (LD hb hHeld.2.2.1) (And.intro (LD hb hHeld.2.2.2.1) (And.intro (LD hb hHeld.2.2.2.2.1) (LD hb hHeld.2.2.2.2.2)))));refine ⟨_,rfl,?_⟩;obtain ⟨A7,c7,e7⟩:=Kd.bG ho0;subst e7;have HR7:=AM ho0;have HB7:=AM (jF HD.out hb);have HSZ:=AM HD.out.size;clear ho0 ho1 hb;refine hK.out _ _ HS_ (fun hHeld=>?_);clear hK K HS_;refine iy (a':=?_) ?_ ?_;rotate_left
      ·show Act.put _ (some 49) _ = _;simp only [Act.put,List.setIfInBounds_toArray,List.set_cons_zero,List.set_cons_succ,dJ,eX];rfl
      refine PA 8 41 HT_ ?_;refine PA 9 50 HT_ ?_;refine PA 10 51 HT_ ?_;refine PA 11 52 HT_ ?_;refine PA 12 12 HT_ ?_;refine PA 13 13 HT_ ?_;refine PA 14 14 HT_ ?_;refine l8 (l5 HT_.out (by kernel_rfl)) ?_;go_wp2_with (go_at_fn 41;fail);refine (bq.see (bq.stays HR7.out (bq.acS HR.out HSZ.out)) HX1.out (HR.out.below HB7.out) HMK.out).mono ?_;rintro e w8 ⟨rfl,ho,hk,hrow⟩;have HO8:=AM ho;have HK8:=AM hk;have HR8:=AM hrow;clear ho hk hrow;go_wp2;go_roundg (E.length - (t + 1))
      case measure=>have:=HTT.out;omega
      case rel =>
       have hT:=HTT.out;have hEl:=HEL.out;exact ⟨t + 1,b',bq.nxt (by omega),by omega,by omega,HM2,⟨bq.over (jF HG.out HB7.out) HGS.out HO8.out HK8.out (jF HG.out HB7.out).size⟩,⟨(HK.out.below HB7.out).then_ HK8.out (fun _ h_=>.inl h_)⟩,HR8,⟨(bq.Zt _ _ _ HMK.out).trans HLN.out⟩⟩
     ·have:=(if_neg c2).symm.trans hm;cases this
    ·rw [if_neg c1] at hm;cases hm
   ·have hltz : ¬ (t : Int) < (E.length : Int):=by omega
    have hm:=HM.out;rw [List.drop_eq_nil_of_le (by omega),bq.g1] at hm;have hbe:=Option.some.inj hm;subst hbe;clear hm HM;have z0 : wr.cell? ⟨g6,0,none⟩ = some (.int .i64 hn):=(BC hx6 0).trans rfl;have z1 : wr.cell? ⟨g6,1,none⟩ = some (.slice A2 hl.length c2):=(BC hx6 1).trans rfl;have z2 : wr.cell? ⟨g6,2,none⟩ = some (.slice A3 hc.length c3):=(BC hx6 2).trans rfl;have z3 : wr.cell? ⟨g6,3,none⟩ = some (.slice A4 hbd.length c4):=(BC hx6 3).trans rfl;have OX:=AM hx6;clear hx6;go_wp2_with (go_at_call 39;refine (jX.calls k hn A2 c2 hl A3 c3 hc A4 c4 hbd F wr (Kd.aQ HL.out.2.2 HG.out) HL.out.2.1 (Kd.aQ HCC.out.2.2 HG.out) HCC.out.2.1 (Kd.aQ HBD.out.2.2 HG.out) HBD.out.2.1 HF.out).mono ?_;rintro e w9 ⟨v9,rfl,hRf,hb⟩;obtain ⟨A9,c9,e9⟩:=Kd.bG hRf;subst e9;have HRF:=AM hRf;have HB9:=AM hb;clear hRf hb z0 z1 z2 z3);have HG9:=AM (jF HG.out HB9.out);have HR9:=AM (HR.out.below HB9.out);have amQ:=AM ((HB9.out.block g6 (jH OX.out)).trans OX.out);have ayl:=AM (bq.acS HR.out (Nat.le_refl wr.heap.size));clear HG HR OX;go_loopg [60] F.length (fun gg v60 wq=>∃ (t : Nat) (b : List Bool),v60 = .int .i64 (t : Int)∧t ≤ F.length∧F.length - t ≤ gg∧ak (bq.g2 k hn hl hc hbd (F.drop t) b = some b2)∧ak (Below w1.heap.size w1 wq)∧ak (Kept w9 wq (fun k_=>k_ = gs))∧ak (bq.Row wq g8 gs cap b)∧ak (b.length = hc.length))
    case atStart=>exact ⟨0,_,rfl,Nat.zero_le _,by omega,⟨by rw [List.drop_zero];exact HG2.out⟩,HG9,⟨Kept.refl _ _⟩,HR9,HLN⟩
    case round =>
     clear HLN HR9 HG9 ht hg hlt hltz;obtain ⟨t,b,rfl,ht,hg,HM,HG,HK9,HR,HLN⟩:=hrel;have hx6:=(HK9.out.2 g6 (jH amQ.out) (fun e_=>amO.out e_)).trans amQ.out;by_cases hlt : t < F.length
     ·have hltz : (t : Int) < (F.length : Int):=by omega
      have hm:=HM.out;rw [List.drop_eq_getElem_cons hlt,bq.g2] at hm
      have er : rd F (t : Int) = F[t]:=by
       unfold rd;rw [Int.toNat_natCast,List.getD_eq_getElem?_getD,List.getElem?_eq_getElem hlt];rfl
      rw [← er] at hm;obtain ⟨ad9,e9,hx⟩:=Kd.aN (bq.stays HRF.out ayl.out wr HK9.out) (t : Int) (by omega) hltz;subst e9;rw [Int.toNat_natCast] at hx;obtain ⟨q,hq⟩ : ∃ q : Int,q = rd F (t : Int):=⟨_,rfl⟩;rw [← hq] at hm hx;clear er hq;obtain ⟨⟨x1,x3⟩,hen,hm⟩:=Option.bind_eq_some_iff.mp hm;by_cases c2 : x1.length ≤ 1000000
      ·replace hm:=(if_pos c2).symm.trans hm;obtain ⟨b',hmk,hm⟩:=Option.bind_eq_some_iff.mp hm;have HEN:=AM hen;have HMK:=AM hmk;have HM2:=AM (show bq.g2 k hn hl hc hbd (F.drop (t + 1)) b' = some b2 from hm);have HX1:=AM c2;clear hen hmk hm c2;have p1 : (0 ≤ (t : Int)) = True:=ET (by omega);have q1 : ((t : Int) < (F.length : Int)) = True:=ET hltz;have z0 : wr.cell? ⟨g6,0,none⟩ = some (.int .i64 hn):=(BC hx6 0).trans rfl;have z1 : wr.cell? ⟨g6,1,none⟩ = some (.slice A2 hl.length c2):=(BC hx6 1).trans rfl;have z2 : wr.cell? ⟨g6,2,none⟩ = some (.slice A3 hc.length c3):=(BC hx6 2).trans rfl;have z3 : wr.cell? ⟨g6,3,none⟩ = some (.slice A4 hbd.length c4):=(BC hx6 3).trans rfl;have HTT:=AM (And.intro ht (And.intro hg hlt));clear hx6 ht hg hlt
       go_wp2_with (first
        | (go_at_call 42;refine (qE.calls k hn A2 c2 hl A3 c3 hc A4 c4 hbd q x1 x3 wr (Kd.aQ HL.out.2.2 HG.out) HL.out.2.1 (Kd.aQ HCC.out.2.2 HG.out) HCC.out.2.1 (Kd.aQ HBD.out.2.2 HG.out) HBD.out.2.1 HEN.out).mono ?_;rintro e w7 ⟨v7,rfl,hR7,hb⟩;obtain ⟨A7,c7,e7⟩:=Kd.bG hR7;subst e7;have HR7:=AM hR7;have HB7:=AM hb;clear hR7 hb)
        | (go_at_fn 41;fail))
       refine (bq.see (bq.stays HR7.out (bq.acS HR.out (Nat.le_refl _))) HX1.out (HR.out.below HB7.out) HMK.out).mono ?_;rintro e w8 ⟨rfl,ho,hk,hrow⟩;have HO8:=AM ho;have HK8:=AM hk;have HR8:=AM hrow;clear ho hk hrow;go_wp2;go_roundg (F.length - (t + 1))
       case measure=>have:=HTT.out;omega
       case rel =>
        have hT:=HTT.out;have hFl:=HFL.out;exact ⟨t + 1,b',bq.nxt (by omega),by omega,by omega,HM2,⟨bq.over (jF HG.out HB7.out) HGS.out HO8.out HK8.out (jF HG.out HB7.out).size⟩,⟨(HK9.out.below HB7.out).then_ HK8.out (fun _ h_=>.inl h_)⟩,HR8,⟨(bq.Zt _ _ _ HMK.out).trans HLN.out⟩⟩
      ·have:=(if_neg c2).symm.trans hm;cases this
     ·have hltz : ¬ (t : Int) < (F.length : Int):=by omega
      have hm:=HM.out;rw [List.drop_eq_nil_of_le (by omega),bq.g2] at hm;have hbe:=Option.some.inj hm;subst hbe;clear hm HM;have z2 : wr.cell? ⟨g6,2,none⟩ = some (.slice A3 hc.length c3):=(BC hx6 2).trans rfl;have OX:=AM hx6;clear hx6;go_wp2;go_loopg [77,19] hc.length (fun gg v77 v19 wq=>∃ (t : Nat) (c : Int),v77 = .int .i64 (t : Int)∧v19 = .int .i64 c∧t ≤ hc.length∧hc.length - t ≤ gg∧ak (bq.g3 k hn hl hc hbd b (hc.length - t) t c = some r1)∧ak (Below w1.heap.size w1 wq)∧ak (bq.Row wq g8 gs cap b)∧ak (wq.heap[g6]? = some (.cells #[.int .i64 hn,.slice A2 hl.length c2,.slice A3 hc.length c3,.slice A4 hbd.length c4] 43 (0,0))))
      case atStart=>exact ⟨0,0,rfl,rfl,Nat.zero_le _,by omega,HG3,HG,HR,OX⟩
      case round =>
       clear HG HR OX ht hg hlt hltz z2 HK9;obtain ⟨t,c,rfl,rfl,ht,hg,HM,HG,HR,HX⟩:=hrel;by_cases hlt : t < hc.length
       ·have hltz : (t : Int) < (hc.length : Int):=by omega
        have hm:=HM.out;obtain ⟨d,hd⟩ : ∃ d,hc.length - t = d + 1:=⟨hc.length - t - 1,by omega⟩;rw [hd,bq.g3] at hm;have hd2 : hc.length - (t + 1) = d:=by omega
        have hbl : t < b.length:=by have:=HLN.out;omega
        obtain ⟨cur,hr1,hr2,hr3⟩:=HR.out.row;have eb : b.getD t false = b[t]:=by rw [List.getD_eq_getElem?_getD,List.getElem?_eq_getElem hbl];rfl
        have z8 : wr.cell? ⟨g8,0,none⟩ = some (.slice (some ⟨gs,0,none⟩) b.length cap):=(BC HR.out.box 0).trans rfl;have zs : wr.cell? ⟨gs,t,none⟩ = some (.bool (b.getD t false)):=by rw [BC hr1];exact hr3 t _ (by rw [eb];exact List.getElem?_eq_getElem hbl)
        have z0 : wr.cell? ⟨g6,0,none⟩ = some (.int .i64 hn):=(BC HX.out 0).trans rfl;have z1 : wr.cell? ⟨g6,1,none⟩ = some (.slice A2 hl.length c2):=(BC HX.out 1).trans rfl;have z2 : wr.cell? ⟨g6,2,none⟩ = some (.slice A3 hc.length c3):=(BC HX.out 2).trans rfl;have z3 : wr.cell? ⟨g6,3,none⟩ = some (.slice A4 hbd.length c4):=(BC HX.out 3).trans rfl;have p1 : (0 ≤ (t : Int)) = True:=ET (by omega);have q1 : ((t : Int) < (b.length : Int)) = True:=ET (by omega);have HTT:=AM (And.intro ht (And.intro hg (And.intro hlt hd2)));clear eb hr1 hr2 hr3 hbl ht hg hlt hd hd2;by_cases cb : b.getD t false = true
        ·rw [if_pos cb] at hm;rw [cb] at zs;have HM2:=AM hm;clear hm cb;go_wp2;go_roundg (hc.length - (t + 1))
         case measure=>have:=HTT.out;omega
         case rel =>
          have hT:=HTT.out;have hP:=HP.out;exact ⟨t + 1,c,bq.nxt (by omega),rfl,by omega,by omega,⟨by rw [hT.2.2.2];exact HM2.out⟩,HG,HR,HX⟩
        ·rw [if_neg cb] at hm;rw [NF cb] at zs;obtain ⟨D,hD,hm⟩:=Option.bind_eq_some_iff.mp hm;have HDD:=AM hD;clear hD cb;by_cases c2 : (D.length : Int) = 2
         ·rw [if_pos c2] at hm;have HM2:=AM hm;have cz : ((D.length : Int) == 2) = true:=beq_iff_eq.2 c2;clear hm c2;go_wp2_with (first|(go_at_call 43;refine (dV.calls k hn A2 c2 hl A3 c3 hc A4 c4 hbd (t : Int) D wr (Kd.aQ HL.out.2.2 HG.out) HL.out.2.1 (Kd.aQ HCC.out.2.2 HG.out) HCC.out.2.1 (Kd.aQ HBD.out.2.2 HG.out) HBD.out.2.1 HDD.out).mono ?_;rintro e w12 ⟨v12,rfl,hN,hb⟩;obtain ⟨A12,c12,e12⟩:=Kd.Ij hN;subst e12;have LB:=AM hb;clear hN hb));go_roundg (hc.length - (t + 1))
          case measure=>have:=HTT.out;omega
          case rel =>
           have hT:=HTT.out;have hP:=HP.out;exact ⟨t + 1,wrap64 (c + 1),bq.nxt (by omega),rfl,by omega,by omega,⟨by rw [hT.2.2.2];exact HM2.out⟩,⟨jF HG.out LB.out⟩,⟨HR.out.below LB.out⟩,⟨(LB.out.block g6 (jH HX.out)).trans HX.out⟩⟩
         ·rw [if_neg c2] at hm;have HM2:=AM hm;have cz : ((D.length : Int) == 2) = false:=beq_eq_false_iff_ne.2 c2;clear hm c2;go_wp2_with (first|(go_at_call 43;refine (dV.calls k hn A2 c2 hl A3 c3 hc A4 c4 hbd (t : Int) D wr (Kd.aQ HL.out.2.2 HG.out) HL.out.2.1 (Kd.aQ HCC.out.2.2 HG.out) HCC.out.2.1 (Kd.aQ HBD.out.2.2 HG.out) HBD.out.2.1 HDD.out).mono ?_;rintro e w12 ⟨v12,rfl,hN,hb⟩;obtain ⟨A12,c12,e12⟩:=Kd.Ij hN;subst e12;have LB:=AM hb;clear hN hb));go_roundg (hc.length - (t + 1))
          case measure=>have:=HTT.out;omega
          case rel =>
           have hT:=HTT.out;have hP:=HP.out;exact ⟨t + 1,c,bq.nxt (by omega),rfl,by omega,by omega,⟨by rw [hT.2.2.2];exact HM2.out⟩,⟨jF HG.out LB.out⟩,⟨HR.out.below LB.out⟩,⟨(LB.out.block g6 (jH HX.out)).trans HX.out⟩⟩
       ·have hltz : ¬ (t : Int) < (hc.length : Int):=by omega
        have hm:=HM.out;rw [show hc.length - t = 0 by omega,bq.g3] at hm;have hbe:=Option.some.inj hm;subst hbe;go_wp2;go_ret2;exact ⟨rfl,jF HB1.out HG.out⟩

def yB.f (k : Nat) (a0 : Int) (l1 : List Int) (a2 : Int) : Option (List Int):=(cB.f k a0).bind fun uL=>(if 0 ≤ a2 then (if a2 < (uL.length : Int) then ((fD.f k l1 (ah uL a2)).bind fun uM=>(if 0 < (uM.length : Int) then ((ig.f k uL (ah uM 0) a2).bind fun OY=>((d9.f k uL l1 (ah uM 0) OY).bind fun acT=>(some acT.1))) else (none))) else (none)) else (none))
theorem yB.mono : ∀ a0 a1 a2 k,LeO (yB.f k a0 a1 a2) (yB.f (k + 1) a0 a1 a2):=by
 intro a0 a1 a2 k;unfold yB.f
 have m0:=@ig.mono
 have m1:=@fD.mono
 have m2:=@d9.mono
 have m3:=@cB.mono
 exact MO
theorem yB.calls (k : Nat) (a0 : Int) (A1 : Option Addr) (c1 : Nat) (l1 : List Int) (a2 : Int) (r : List Int) (w : World) (hr1 : Kd.C (Kd.int .i64) w A1 l1.length l1) (hc1 : l1.length ≤ c1) (h : yB.f k a0 l1 a2 = some r) :
  Calls Try.prog 44 #[.int .i64 a0,.slice A1 l1.length c1,.int .i64 a2] w fun e w'=>∃ v0_ : Value,e = .returned (v0_)∧Kd.R (Kd.int .i64) 3 w' w.heap.size (fun _=>True) v0_ r∧Below w.heap.size w w':=by
 have HR1:=AM hr1;have HC1:=AM hc1;clear hr1 hc1;have HB:=HRf w;have H : ((cB.f k a0).bind fun uL=>(if 0 ≤ a2 then (if a2 < (uL.length : Int) then ((fD.f k l1 (ah uL a2)).bind fun uM=>(if 0 < (uM.length : Int) then ((ig.f k uL (ah uM 0) a2).bind fun OY=>((d9.f k uL l1 (ah uM 0) OY).bind fun acT=>(some acT.1))) else (none))) else (none)) else (none))) = some r:=h;clear h;replace H:=EA H;obtain ⟨uL,A4,H⟩:=H;replace H:=IC H;obtain ⟨c5,H⟩:=H;have ko:=DT c5;clear c5;replace H:=IC H;obtain ⟨c6,H⟩:=H;have iA:=DT c6;clear c6;replace H:=EA H;obtain ⟨uM,A7,H⟩:=H;replace H:=IC H;obtain ⟨c8,H⟩:=H;have nU:=DT c8;have vD : decide (0 < uM.length) = true:=DT (by omega);clear c8;replace H:=EA H;obtain ⟨OY,A9,H⟩:=H;replace H:=EA H;obtain ⟨⟨aym,ayn⟩,A10,H⟩:=H;try dsimp only at H
 obtain rfl:=Option.some.inj H;go_enter Try.func44,Try.ntmps44;go_wp2_with (first|(refine GC 28 ?_;refine GM (some 12) Try.func28 (cB.calls k a0 uL _ A4.out) ?_;rintro e w11 ⟨aFm,rfl,ho0,hb⟩;refine ⟨_,rfl,?_⟩;have vk:=AM (Kd.jG ho0 (BZ BB));replace HB:=HS hb;try clear hb ho0;obtain ⟨dY,dR,Bt⟩:=Kd.jC vk.out;subst Bt;have Yj : 0 ≤ (a2 : Int):=OD AS;have Yk : a2 < (uL.length : Int):=OD AS;obtain ⟨auW,aBG,aBH,ayo,aqA,aiS,aiT⟩:=gT (Kd.bW vk.out).2.2 a2 Yj Yk;cases ayo;obtain ⟨aCV,asa,asb,ajP⟩:=Kd.ny vk.out [] a2 Yj (by first|exact Yk|exact OD AS|(have e_:=(Kd.bW vk.out).1;omega));obtain ⟨aAX,rfl,aaF⟩:=asb;have QA:=ajP 0 _ rfl;rw [Nat.add_zero,show ((Kd.slice 3 (Kd.int .i64))).sz = 1 from rfl,Nat.mul_one] at QA;replace QA:=Option.some.inj (QA.symm.trans aqA);rw [QA] at aaF;have Fy:=AM (show Kd.R (Kd.int .i64) 3 _ _ _ _ (ah uL a2) from aaF);clear QA aaF;clear ajP asa;have IW:=AM aiT;have aqB:=AM aiS;clear aiT aiS;replace Yj:=ET Yj;replace Yk:=ET Yk)|(refine GC 45 ?_;refine GM (some 18) Try.func45 (fD.calls k _ _ l1 _ _ (ah uL a2) uM _ (CW (Kd.aQ HR1.out HB.out)) HC1.out (CX IW) aqB.out A7.out) ?_;rintro e w13 ⟨aFo,rfl,ho0,hb⟩;refine ⟨_,rfl,?_⟩;have El:=AM (Kd.jG (Kd.oJ (Kd.oJ ho0 (Kd.oV (KS vk))) (Kd.bJ (KR Fy))) (BZ BB));replace vk:=AM (Kd.zO (KS vk) (Kd.sN ho0) hb);replace Fy:=RB Fy hb;replace IW:=AM (Kd.aQ (CX IW) hb);replace HB:=HS hb;try clear hb ho0;obtain ⟨kR,jr,vw⟩:=Kd.jC El.out;subst vw;have Yl : 0 ≤ (0 : Int):=(by omega);have Ym : 0 < (uM.length : Int):=OD AS;obtain ⟨auX,asc,ase,ayp,aaG,aiU,aiV⟩:=gT (Kd.bW El.out).2.2 0 Yl Ym;cases ayp;obtain ⟨aCW,asf,asg,ajQ⟩:=Kd.ny El.out [] 0 Yl (by first|exact Ym|exact OD AS|(have e_:=(Kd.bW El.out).1;omega));obtain ⟨aAY,rfl,aaH⟩:=asg;have QB:=ajQ 0 _ rfl;rw [Nat.add_zero,show ((Kd.slice 3 (Kd.int .i64))).sz = 1 from rfl,Nat.mul_one] at QB;replace QB:=Option.some.inj (QB.symm.trans aaG);rw [QB] at aaH;have Fz:=AM (show Kd.R (Kd.int .i64) 3 _ _ _ _ (ah uM 0) from aaH);clear QB aaH;clear ajQ asf;have aCX : (0 < uM.length) = True:=ET (by omega);(try rw [show ((0 : Int)).toNat = 0 from rfl] at aaG);(try rw [Addr.add_zero'] at aaG);have QC:=AM aiV;have aqC:=AM aiU;clear aiV aiU;replace Yl:=ET Yl;replace Ym:=ET Ym)|(refine GC 56 ?_;refine GM (some 28) Try.func56 (ig.calls k _ _ uL _ _ (ah uM 0) a2 OY _ (CW (Kd.bW vk.out).2.2) ((Kd.bW vk.out).2.1) (CX QC) aqC.out A9.out) ?_;rintro e w15 ⟨rfl,hb⟩;refine ⟨_,rfl,?_⟩;replace vk:=SB vk hb;replace Fy:=RB Fy hb;replace El:=SB El hb;replace Fz:=RB Fz hb;replace IW:=AM (Kd.aQ (CX IW) hb);replace QC:=AM (Kd.aQ (CX QC) hb);replace HB:=HS hb;try clear hb)|(refine GC 55 ?_;refine GM (some 29) Try.func55 (d9.calls k _ _ uL _ _ l1 (fun k_=>some k_ = (.slice asc (ah uM 0).length ase : Value).ownBlock) _ _ (ah uM 0) OY aym ayn _ (CW (Kd.bW vk.out).2.2) ((Kd.bW vk.out).2.1) (CW (Kd.aQ HR1.out HB.out)) HC1.out (Kd.R_V (Kd.Du rfl (Fz.out))) A10.out) ?_;rintro e w16 ⟨ayq,aFp,rfl,ho0,ho1,hb⟩;refine ⟨_,rfl,?_⟩;have auY:=AM (Kd.bD (Kd.dM (Kd.dM (Kd.aM (ok':=fun k_=>True) ho0 (fun _ hk_=>trivial)) (Kd.bJ (KR Fy))) (Kd.bJ (KR Fz))) (BZ BB));replace Fy:=RO Fy ho0 hb;have aCY:=AM (Kd.nN (Kd.dz (ok':=fun k_=>some k_≠(ayq : Value).ownBlock∧some k_≠(.slice (some auW) uL.length dR : Value).ownBlock∧some k_≠(.slice (some auX) uM.length jr : Value).ownBlock) ho1 (fun k_ hk_=>⟨hk_.2,Or.elim hk_.1 (fun hs_=>((Fz.out).1 k_ hs_.symm).1.1.2) (fun hn_=>(Kd.fresh' (Kd.oV (KS vk)) k_ hn_)),Or.elim hk_.1 (fun hs_=>((Fz.out).1 k_ hs_.symm).2) (fun hn_=>(Kd.fresh' (Kd.oV (KS El)) k_ hn_))⟩)) (BZ BB));replace vk:=SO vk ho0 hb;replace El:=SO El ho0 hb;replace Fz:=RO Fz ho0 hb;replace IW:=AM (Kd.aQ (CX IW) hb);replace QC:=AM (Kd.aQ (CX QC) hb);replace HB:=HS hb;try clear hb ho0 ho1));go_ret;exact ⟨_,RE,by (with_reducible repeat (first|apply Kd.dh|apply Kd.dn|apply Kd.bF));exact Kd.aM auY.out (fun _ hk=>trivial),BB⟩

end Go.Proofs.Ythaonijhfeemfaa.dL
