-- Written by a program of this session (wip/tools/pp.sh) out of the translation; Lean checks it.
import Derived.Test.YthaonijhfeemfaaPFnWalksEndFullx6
namespace Go.Proofs.Ythaonijhfeemfaa.dL
open Go.RowKit Go.Proofs.YthaonijhfeemfaaOwn Go.Proofs.YthaonijhfeemfaaW.bU Go.Proofs.YthaonijhfeemfaaW.fB Go.Proofs.YthaonijhfeemfaaW.iw
attribute [local go_sem] nG nH nK nL nD nE nI nJ   -- for this text's walks alone
set_option linter.unusedVariables false
set_option maxHeartbeats 8000000
set_option maxRecDepth 100000
set_option linter.unusedSimpArgs false

theorem LC {w W : World} {a : Addr} {v : Value} (h : w.cell? a = some v) (hb : Below w.heap.size w W := by first | exact HB.out | (repeat (first | exact HB.out | apply kr | apply fA | apply jE))) : W.cell? a = some v := LD hb h
def qV.f (l0 : List Int) (l1 : List (S43)) : Option (Bool):=if 0 < (l1.length : Int) then (if 0 < (l0.length : Int) then (if 1 < (l0.length : Int) then ((yV.f ((lu l1 0).f0) ((lu l1 0).f1) ((lu l1 0).f2) ((lu l1 0).f3) (rd l0 0) (rd l0 1)).bind fun U1=>(some (!U1))) else (none)) else (none)) else (none)
def qV.T1 : Bool × List (List Nat × List Nat):=(true,[([],[]),([],[]),([1],[1]),([2],[2]),([],[]),([4],[4]),([5],[5]),([0,3,6],[0,3,6]),([7],[7]),([8,7,0,1,2,3,4,5,6,7,8],[8])])
def qV.B1 : List Nat:=[0,0,2,6,0,16,48,127,255,511]
theorem qV.KI : fC .any (opsOf Try.f61 1) = qV.T1:=by kernel_rfl
theorem qV.Jz : lN qV.T1.2 qV.B1 = true:=by kernel_rfl
theorem qV.calls (A0 : Option Addr) (c0 : Nat) (l0 : List Int) (A1 : Option Addr) (c1 : Nat) (l1 : List (S43)) (r : Bool) (w : World) (hr0 : Kd.C (Kd.int .i64) w A0 l0.length l0) (hc0 : l0.length ≤ c0) (hr1 : Kd.C k43 w A1 l1.length l1) (hc1 : l1.length ≤ c1) (h : qV.f l0 l1 = some r) :
  Calls Try.prog 61 #[.slice A0 l0.length c0,.pointer A1] w fun e w'=>e = .returned (.bool r)∧Below w.heap.size w w':=by
 have uH:=Try.underlying43;have HR0:=AM hr0;have HC0:=AM hc0;clear hr0 hc0;have HR1:=AM hr1;have HC1:=AM hc1;clear hr1 hc1;have HB:=HRf w;have H : (if 0 < (l1.length : Int) then (if 0 < (l0.length : Int) then (if 1 < (l0.length : Int) then ((yV.f ((lu l1 0).f0) ((lu l1 0).f1) ((lu l1 0).f2) ((lu l1 0).f3) (rd l0 0) (rd l0 1)).bind fun U1=>(some (!U1))) else (none)) else (none)) else (none)) = some r:=h;clear h;replace H:=IC H;obtain ⟨c3,H⟩:=H;have iQ:=DT c3;have zC : decide (0 < l1.length) = true:=DT (by omega);clear c3;replace H:=IC H;obtain ⟨c4,H⟩:=H;have iR:=DT c4;have JY : decide (0 < l0.length) = true:=DT (by omega);clear c4;replace H:=IC H;obtain ⟨c5,H⟩:=H;have ko:=DT c5;have Gw : decide (1 < l0.length) = true:=DT (by omega);clear c5;replace H:=EA H;obtain ⟨U1,A6,H⟩:=H;obtain rfl:=Option.some.inj H;go_enter Try.func61,Try.ntmps61;try go_wp2
 replace HB:=AM (fA HB.out);have agr : 0 ≤ (0 : Int):=(by omega);have ags : 0 < (l1.length : Int):=OD AS;obtain ⟨JV,ajX,ajY,ajZ,aj0,aj1,aj2,azp,Ja,Jb,Jc,Jd,ai7,ai8,ai9,aja,ajb,ajc⟩:=arD HR1.out 0 agr ags;have Q7:=Jd
 (try rw [show ((0 : Int)).toNat = 0 from rfl] at Q7)
 (try rw [show 0 * 4 = 0 from rfl] at Q7)
 (try rw [Addr.add_zero'] at Q7);have Q8:=Jc
 (try rw [show ((0 : Int)).toNat = 0 from rfl] at Q8)
 (try rw [show 0 * 4 = 0 from rfl] at Q8)
 (try rw [Addr.add_zero'] at Q8);have Q9:=Jb
 (try rw [show ((0 : Int)).toNat = 0 from rfl] at Q9)
 (try rw [show 0 * 4 = 0 from rfl] at Q9)
 (try rw [Addr.add_zero'] at Q9);have Ra:=Ja
 (try rw [show ((0 : Int)).toNat = 0 from rfl] at Ra)
 (try rw [show 0 * 4 = 0 from rfl] at Ra)
 (try rw [Addr.add_zero'] at Ra);cases azp;have aEd : (0 < l1.length) = True:=ET (by omega)
 (try rw [show ((0 : Int)).toNat = 0 from rfl] at Ja)
 (try rw [show 0 * 4 = 0 from rfl] at Ja)
 (try rw [Addr.add_zero'] at Ja)
 (try rw [show ((0 : Int)).toNat = 0 from rfl] at Jb)
 (try rw [show 0 * 4 = 0 from rfl] at Jb)
 (try rw [Addr.add_zero'] at Jb)
 (try rw [show ((0 : Int)).toNat = 0 from rfl] at Jc)
 (try rw [show 0 * 4 = 0 from rfl] at Jc)
 (try rw [Addr.add_zero'] at Jc)
 (try rw [show ((0 : Int)).toNat = 0 from rfl] at Jd)
 (try rw [show 0 * 4 = 0 from rfl] at Jd)
 (try rw [Addr.add_zero'] at Jd);try (replace Ja:=LC Ja)
 try (replace Jb:=LC Jb)
 try (replace Jc:=LC Jc)
 try (replace Jd:=LC Jd)
 have ajd:=AM ai8;have aqL:=AM ai7;clear ai8 ai7;have aje:=AM aja;have aqM:=AM ai9;clear aja ai9;have ajf:=AM ajc;have aqN:=AM ajb;clear ajc ajb;replace agr:=ET agr;replace ags:=ET ags;have agt : 0 ≤ (0 : Int):=(by omega);have agu : 0 < (l0.length : Int):=OD AS;obtain ⟨Xq,azq,Nt⟩:=Kd.aN HR0.out 0 agt agu;have Rb:=Nt
 (try rw [show ((0 : Int)).toNat = 0 from rfl] at Rb)
 (try rw [show 0 * 1 = 0 from rfl] at Rb)
 (try rw [Addr.add_zero'] at Rb);cases azq;have aEe : (0 < l0.length) = True:=ET (by omega)
 (try rw [show ((0 : Int)).toNat = 0 from rfl] at Nt)
 (try rw [Addr.add_zero'] at Nt);try (replace Nt:=LC Nt)
 replace agt:=ET agt;replace agu:=ET agu;have agv : 0 ≤ (1 : Int):=(by omega);have agw : 1 < (l0.length : Int):=OD AS;obtain ⟨awe,azr,Nu⟩:=Kd.aN HR0.out 1 agv agw;have Rc:=Nu
 (try rw [show ((1 : Int)).toNat = 1 from rfl] at Rc)
 (try rw [show 1 * 1 = 1 from rfl] at Rc)
 (try simp only [Nat.reduceMul,Nat.reduceEqDiff,Go.Addr.add,↓reduceIte] at Rc);obtain rfl : Xq = awe:=(by injection azr)
 (try simp only [show (1 : Int).toNat = 1 from rfl,Nat.reduceMul,Nat.reduceEqDiff,Go.Addr.add,↓reduceIte] at Nu);have aEf : (1 < l0.length) = True:=ET (by omega)
 (try rw [show ((1 : Int)).toNat = 1 from rfl] at Nu);try (replace Nu:=LC Nu)
 replace agv:=ET agv;replace agw:=ET agw;refine PSt (n:=10) (S:=fun w'=>w'.cell? JV = some (.int .i64 ((lu l1 0).f0))∧w'.cell? ⟨JV.block,JV.off + 1,none⟩ = some (.slice ajX ((lu l1 0).f1).length ajY)∧w'.cell? ⟨JV.block,JV.off + 2,none⟩ = some (.slice ajZ ((lu l1 0).f2).length aj0)∧w'.cell? ⟨JV.block,JV.off + 3,none⟩ = some (.slice aj1 ((lu l1 0).f3).length aj2)∧w'.cell? Xq = some (.int .i64 (rd l0 0))∧w'.cell? ⟨Xq.block,Xq.off + 1,none⟩ = some (.int .i64 (rd l0 1))) (ds:=[]) ⟨LC Ra,LC Q9,LC Q8,LC Q7,LC Rb,LC Rc⟩ (fun hHeld=>?_);refine lK qV.KI qV.Jz (fun HT_ HW_=>?_);generalize w.drew = w7 at HB ajd aje ajf Ja Jb Jc Jd Nt Nu hHeld ⊢;refine PA 1 5 HT_ ?_;refine PA 2 6 HT_ ?_;refine PA 4 8 HT_ ?_;refine PA 5 9 HT_ ?_;refine PB 0 4 HT_ HW_ hHeld ?_;refine PB 3 7 HT_ HW_ hHeld ?_;refine PB 6 10 HT_ HW_ hHeld ?_;refine PC 7 11 HT_ (fun K hK=>?_);refine iL Try.func62 (by kernel_rfl) rfl #[.agg #[.int .i64 ((lu l1 0).f0),.slice ajX ((lu l1 0).f1).length ajY,.slice ajZ ((lu l1 0).f2).length aj0,.slice aj1 ((lu l1 0).f3).length aj2],.int .i64 (rd l0 0),.int .i64 (rd l0 1)] (by rfl) rfl rfl TA ?_;with_reducible refine (yV.calls ((lu l1 0).f0) _ _ ((lu l1 0).f1) _ _ ((lu l1 0).f2) _ _ ((lu l1 0).f3) (rd l0 0) (rd l0 1) U1 _ ?aU ?aV ?eu ?eB ?lC ?mQ A6.out).mono ?_
 (case aU=>exact CW (Kd.aQ ajd.out HB.out))
 (case aV=>exact aqL.out)
 (case eu=>exact CW (Kd.aQ aje.out HB.out))
 (case eB=>exact aqM.out)
 (case lC=>exact CW (Kd.aQ ajf.out HB.out))
 (case mQ=>exact aqN.out);rintro e w8 ⟨rfl,hb⟩;refine ⟨_,rfl,?_⟩;replace HB:=HS hb;try clear hb
 refine hK.out _ _ ⟨LC Ra,LC Q9,LC Q8,LC Q7,LC Rb,LC Rc⟩ (fun hHeld=>?_);clear hK K;refine iy (a':=?_) ?_ ?_;rotate_left
 ·show Act.put _ (some 11) _ = _;simp only [Act.put,List.setIfInBounds_toArray,List.set_cons_zero,List.set_cons_succ,dJ,eX];rfl
 refine PA 8 12 HT_ ?_;refine PA 9 3 HT_ ?_;refine l8 (l5 HT_.out (by kernel_rfl)) ?_;try go_wp2
 go_ret;exact ⟨RE,BB⟩

def jO.q (a0 : Int) (l1 : List Int) (l2 : List (List Int)) (l3 : List Int) (x : List Int) : Bool:=(qV.f x [(⟨a0,l1,l2,l3⟩ : S43)]).getD false
def jO.f (k : Nat) (a0 : Int) (l1 : List Int) (l2 : List (List Int)) (l3 : List Int) : Option (List (List Int)):=(jd.f k a0 l1 l2 l3).bind fun t=>if ((t.all fun x=>(qV.f x [(⟨a0,l1,l2,l3⟩ : S43)]).isSome) && decide (t.length ≤ 9223372036854775807)) = true then some (t.filter fun x=>!jO.q a0 l1 l2 l3 x) else none
theorem jO.mono : ∀ a0 a1 a2 a3 k,LeO (jO.f k a0 a1 a2 a3) (jO.f (k + 1) a0 a1 a2 a3):=by
 intro a0 a1 a2 a3 k;unfold jO.f;exact LeO.bind (jd.mono _ _ _ _ _) (fun _=>LeO.refl _)
theorem jO.cl {aC : Int} {aX : Option Addr} {aY : Nat} {av : List Int} {bA : Option Addr} {aW : Nat} {aj : List (List Int)} {bn : Option Addr} {aZ : Nat} {ay : List Int} {w1 w2 : World} {gb : Nat} {ok : Nat→Prop} {v0 : Value} {t : List (List Int)}
  (hX : w1.heap[gb]? = some (.cells #[.int .i64 aC,.slice aX av.length aY,.slice bA aj.length aW,.slice bn ay.length aZ] 43 (0,0))) (hb2 : Below w1.heap.size w1 w2) (hS : Kd.S (Kd.slice 3 (Kd.int .i64)) 24 w2 w1.heap.size ok v0 t)
  (hr1 : Kd.C (Kd.int .i64) w1 aX av.length av) (hc1 : av.length ≤ aY) (hr2 : Kd.C (Kd.slice 3 (Kd.int .i64)) w1 bA aj.length aj) (hc2 : aj.length ≤ aW) (hr3 : Kd.C (Kd.int .i64) w1 bn ay.length ay) (hc3 : ay.length ≤ aZ)
  (hall : (t.all fun x=>(qV.f x [(⟨aC,av,aj,ay⟩ : S43)]).isSome) = true) :
  ∀ x ∈ t,∀ (A : Option Addr) (c : Nat) (W : World),W.os = w2.os→W.tape = w2.tape→W.output = w2.output→Kept w2 W (fun k=>some k = v0.ownBlock)→Kd.C (Kd.int .i64) W A x.length x→x.length ≤ c →
   Calls Try.prog 61 (#[.slice A x.length c] ++ #[.pointer (some ⟨gb,0,none⟩)]) W fun e W'=>e = .returned (.bool (jO.q aC av aj ay x))∧Below W.heap.size W W':=by
 intro x hx A c W hos htp hout hK hC hlc;have hgb : gb < w1.heap.size:=jH hX;have hv0 : ∀ q,v0.ownBlock = some q→w1.heap.size ≤ q:=fun q hq=>Kd.oh (Kd.S_R hS) q hq
 have hblk : ∀ q,q < w1.heap.size→W.heap[q]? = w1.heap[q]?:=fun q hq=>(hK.2 q (Nat.lt_of_lt_of_le hq hb2.size) (fun e=>by have:=hv0 q e.symm;omega)).trans (hb2.block q hq)
 have hBW : Below w1.heap.size w1 W:=⟨hos.trans hb2.os,htp.trans hb2.tape,hout.trans hb2.output,Nat.le_trans hb2.size hK.1,hblk⟩
 have hsome : (qV.f x [(⟨aC,av,aj,ay⟩ : S43)]) = some (jO.q aC av aj ay x):=by
  have h1:=List.all_eq_true.1 hall x hx;unfold jO.q;obtain ⟨b,hb⟩:=Option.isSome_iff_exists.1 h1;rw [hb];rfl
 show Calls Try.prog 61 #[.slice A x.length c,.pointer (some ⟨gb,0,none⟩)] W _
 exact qV.calls A c x (some ⟨gb, 0, none⟩) 1 [(⟨aC, av, aj, ay⟩ : S43)] (jO.q aC av aj ay x) W hC hlc
  (Kd.abS k43 (g := gb) (t := 43) (cs := #[.int .i64 aC, .slice aX av.length aY, .slice bA aj.length aW, .slice bn ay.length aZ]) ((hblk gb hgb).trans hX)
   (ajy W (⟨aC,av,aj,ay⟩ : S43) hc1 (Kd.aQ hr1 hBW) hc2 (Kd.aQ hr2 hBW) hc3 (Kd.aQ hr3 hBW)))
  (Nat.le_refl _) hsome
theorem jO.calls (k : Nat) (aC : Int) (aX : Option Addr) (aY : Nat) (av : List Int) (bA : Option Addr) (aW : Nat) (aj : List (List Int)) (bn : Option Addr) (aZ : Nat) (ay : List Int) (r : List (List Int)) (w : World) (kC : Kd.C (Kd.int .i64) w aX av.length av) (kD : av.length ≤ aY) (kE : Kd.C (Kd.slice 3 (Kd.int .i64)) w bA aj.length aj) (kF : aj.length ≤ aW) (kG : Kd.C (Kd.int .i64) w bn ay.length ay) (kH : ay.length ≤ aZ) (h : jO.f k aC av aj ay = some r) :
  Calls Try.prog 29 #[.agg #[.int .i64 aC,.slice aX av.length aY,.slice bA aj.length aW,.slice bn ay.length aZ]] w fun e w'=>∃ v0_ : Value,e = .returned (v0_)∧Kd.S (Kd.slice 3 (Kd.int .i64)) 24 w' w.heap.size (fun _=>True) v0_ r∧Below w.heap.size w w':=by
 have hu:=Try.underlying43;have HR1:=AM kC;have HR2:=AM kE;have HR3:=AM kG;have HC1:=AM kD;have HC2:=AM kF;have HC3:=AM kH;clear kC kE kG kD kF kH;unfold jO.f at h;obtain ⟨t,ht,h2⟩:=Option.bind_eq_some_iff.mp h;clear h;have HT:=AM ht;clear ht;by_cases hc : ((t.all fun x=>(qV.f x [(⟨aC,av,aj,ay⟩ : S43)]).isSome) && decide (t.length ≤ 9223372036854775807)) = true
 ·rw [if_pos hc] at h2;have HRR:=AM (Option.some.inj h2);have HC:=AM hc;clear h2 hc;have eg : ∀ args w,(callFunc 61 args).run Try.prog w = .ok (.enter 61 args) w:=Go.Proofs.enters_of Try.func61 (by kernel_rfl) rfl;have HEG:=AM eg;clear eg;go_enter Try.func29,Try.ntmps29
  go_wp2_with (first
   | ((with_reducible refine dG (N:=1) rfl ?_);refine gq ?hg (N:=1) ?hd (cs:=#[.int .i64 aC,.slice aX av.length aY,.slice bA aj.length aW,.slice bn ay.length aZ]) (t:=43) ?hr ?_;(case hd=>rfl);(case hg=>rfl);(case hr=>exact GS);intro gb hg w1 aJ hb;have HB1:=AM hb;have HX:=AM aJ;have HG:=AM hg;clear hb aJ hg;have z0 : w1.cell? ⟨gb,0,none⟩ = some (.int .i64 aC):=(BC HX.out 0).trans rfl;have z1 : w1.cell? ⟨gb,1,none⟩ = some (.slice aX av.length aY):=(BC HX.out 1).trans rfl;have z2 : w1.cell? ⟨gb,2,none⟩ = some (.slice bA aj.length aW):=(BC HX.out 2).trans rfl;have z3 : w1.cell? ⟨gb,3,none⟩ = some (.slice bn ay.length aZ):=(BC HX.out 3).trans rfl)
   | (go_at_call 60;refine (jd.calls k aC aX aY av bA aW aj bn aZ ay t w1 (Kd.aQ HR1.out HB1.out) HC1.out (Kd.aQ HR2.out HB1.out) HC2.out (Kd.aQ HR3.out HB1.out) HC3.out HT.out).mono ?_;rintro e w2 ⟨v0,rfl,hS,hb2⟩;have HS:=AM hS;have HB2:=AM hb2;clear hS hb2 z0 z1 z2 z3)
   | (go_at_call 59;refine (apq 61 #[.pointer (some ⟨gb,0,none⟩)] HEG.out (jO.q aC av aj ay) HS.out (OD (Bool.and_eq_true_iff.1 HC.out).2) (jO.cl HX.out HB2.out HS.out (Kd.aQ HR1.out HB1.out) HC1.out (Kd.aQ HR2.out HB1.out) HC2.out (Kd.aQ HR3.out HB1.out) HC3.out (Bool.and_eq_true_iff.1 HC.out).1)).mono ?_;rintro e w3 ⟨v1,rfl,hS3,hob,hos,htp,hout,hK⟩;have HS3:=AM hS3;have HE:=AM (And.intro hob (And.intro hos (And.intro htp (And.intro hout hK))));clear hS3 hob hos htp hout hK))
  go_ret;have hE:=HE.out;have hv0 : ∀ q,v0.ownBlock = some q→w1.heap.size ≤ q:=fun q hq=>Kd.oh (Kd.S_R HS.out) q hq
  have h1:=HB1.out.size;have hS3:=Kd.jG HS3.out HB1.out.size;rw [HRR.out] at hS3;refine ⟨v1,rfl,hS3,?_⟩;have hK:=hE.2.2.2.2
  exact ⟨(hE.2.1.trans HB2.out.os).trans HB1.out.os,(hE.2.2.1.trans HB2.out.tape).trans HB1.out.tape,(hE.2.2.2.1.trans HB2.out.output).trans HB1.out.output,Nat.le_trans h1 (Nat.le_trans HB2.out.size hK.1),
   fun q hq=>((hK.2 q (Nat.lt_of_lt_of_le hq (Nat.le_trans h1 HB2.out.size)) (fun e=>by have:=hv0 q e.symm;omega)).trans (HB2.out.block q (Nat.lt_of_lt_of_le hq h1))).trans (HB1.out.block q hq)⟩
 ·rw [if_neg hc] at h2;cases h2


def jA.l0 : Nat→List Int→List Int→Int→Int→Option (Bool)
 | 0,_,_,_,_=>none
 | k + 1,x0,x1,x12,x13=>if x13 < x12 then (if 0 ≤ x13 then (if x13 < (x0.length : Int) then (if x13 < (x1.length : Int) then (if (rd x0 x13) = (rd x1 x13) then (jA.l0 k x0 x1 x12 (wrap64 (x13 + 1))) else (some false)) else (none)) else (none)) else (none)) else (some true)
def jA.f (k : Nat) (l0 : List Int) (l1 : List Int) : Option (Bool):=if (l0.length : Int) = (l1.length : Int) then (jA.l0 k l0 l1 (l0.length : Int) 0) else (some false)
theorem jA.bC : ∀ k,(∀ y0 y1 y2 y3,LeO (jA.l0 k y0 y1 y2 y3) (jA.l0 (k + 1) y0 y1 y2 y3))
 | 0=>fun _ _ _ _ r h=>by simp [jA.l0] at h
 | k + 1=>by
  have ih0:=jA.bC k
  ·intro y0 y1 y2 y3
   unfold jA.l0
   exact MO
theorem jA.mono : ∀ a0 a1 k,LeO (jA.f k a0 a1) (jA.f (k + 1) a0 a1):=by
 intro a0 a1 k;have ih0:=jA.bC k;unfold jA.f
 exact MO
theorem jA.calls (k : Nat) (A0 : Option Addr) (c0 : Nat) (l0 : List Int) (A1 : Option Addr) (c1 : Nat) (l1 : List Int) (r : Bool) (w : World) (hr0 : Kd.C (Kd.int .i64) w A0 l0.length l0) (hc0 : l0.length ≤ c0) (hr1 : Kd.C (Kd.int .i64) w A1 l1.length l1) (hc1 : l1.length ≤ c1) (h : jA.f k l0 l1 = some r) :
  Calls Try.prog 30 #[.slice A0 l0.length c0,.slice A1 l1.length c1] w fun e w'=>e = .returned (.bool r)∧dw w w':=by
 have HR0:=AM hr0;have HC0:=AM hc0;clear hr0 hc0;have HR1:=AM hr1;have HC1:=AM hc1;clear hr1 hc1;have H : (if (l0.length : Int) = (l1.length : Int) then (jA.l0 k l0 l1 (l0.length : Int) 0) else (some false)) = some r:=h;clear h;by_cases c3 : (l0.length : Int) = (l1.length : Int)
 ·rw [if_pos c3] at H;have iQ:=QT c3;have zC:=bne_eq_false_iff_eq.mpr c3;have GI : (l0.length == l1.length) = true:=by first|simpa using c3|(simp at c3 ⊢;omega)
  clear c3;have H':=AM H;clear H;go_enter Try.func30,Try.ntmps30;go_wp2;repeat (go_quiet (fail);try go_wp2)
  go_loopg [13] k (fun kq v13 w'=>∃ (bP : Int),v13 = .int .i64 bP∧ak (jA.l0 kq l0 l1 (l0.length : Int) bP = some r)∧ak (kq ≤ k)∧dw w w')
  case atStart=>exact ⟨(0),RF,H',⟨Nat.le_refl _⟩,by repeat (first|exact dw.refl _|apply dw.step)⟩
  case round =>
   clear H';try clear c1
   try clear p2
   try clear c3
   try clear iQ
   try clear zC
   try clear GI
   obtain ⟨bP,rfl,HA,HK1,⟨m1,rfl⟩⟩:=hrel;cases gk with
   | zero=>exact absurd HA.out (by simp [jA.l0])
   | succ k1 =>
    have H:=HA.out;clear HA;simp only [jA.l0] at H;by_cases c4 : bP < (l0.length : Int)
    ·rw [if_pos c4] at H;have iR:=DT c4;clear c4;replace H:=IC H;obtain ⟨c5,H⟩:=H;have ko:=DT c5;clear c5;replace H:=IC H;obtain ⟨c6,H⟩:=H;have iA:=DT c6;clear c6;replace H:=IC H;obtain ⟨c7,H⟩:=H;have kS:=DT c7;clear c7;by_cases c8 : (rd l0 bP) = (rd l1 bP)
     ·rw [if_pos c8] at H;have nU:=QT c8;have vD:=bne_eq_false_iff_eq.mpr c8;clear c8;have H':=AM H;clear H;have wN : 0 ≤ (bP : Int):=OD AS;have wO : bP < (l0.length : Int):=OD AS;obtain ⟨adC,Mk,Je⟩:=Kd.aN HR0.out bP wN wO;cases Mk;replace wN:=ET wN;replace wO:=ET wO;have Ml : 0 ≤ (bP : Int):=OD AS;have Mq : bP < (l1.length : Int):=OD AS;obtain ⟨awf,agx,aqO⟩:=Kd.aN HR1.out bP Ml Mq;cases agx;replace Ml:=ET Ml;replace Mq:=ET Mq;go_wp2;repeat (go_quiet (fail);try go_wp2)
      go_roundg k1
      case measure=>have:=HK1.out;omega
      case rel=>exact ⟨(wrap64 (bP + 1)),RF,H',⟨by have:=HK1.out;omega⟩,by repeat (first|exact dw.refl _|apply dw.step)⟩
     ·rw [if_neg c8] at H;have nU:=beq_eq_false_iff_ne.mpr c8;have vD:=bne_iff_ne.mpr c8;obtain rfl:=Option.some.inj H;have wN : 0 ≤ (bP : Int):=OD AS;have wO : bP < (l0.length : Int):=OD AS;obtain ⟨adC,Mk,Je⟩:=Kd.aN HR0.out bP wN wO;cases Mk;replace wN:=ET wN;replace wO:=ET wO;have Ml : 0 ≤ (bP : Int):=OD AS;have Mq : bP < (l1.length : Int):=OD AS;obtain ⟨awf,agx,aqO⟩:=Kd.aN HR1.out bP Ml Mq;cases agx;replace Ml:=ET Ml;replace Mq:=ET Mq;go_wp2;repeat (go_quiet (fail);try go_wp2)
      go_ret;exact ⟨RF,DR⟩
    ·rw [if_neg c4] at H;have iR:=DF c4;clear c4;obtain rfl:=Option.some.inj H;go_wp2;repeat (go_quiet (fail);try go_wp2)
     go_ret;exact ⟨RF,DR⟩
 ·rw [if_neg c3] at H;have iQ:=beq_eq_false_iff_ne.mpr c3;have zC:=bne_iff_ne.mpr c3;have GI : (l0.length == l1.length) = false:=by first|simpa using c3|(simp at c3 ⊢;omega)
  obtain rfl:=Option.some.inj H;go_enter Try.func30,Try.ntmps30;go_wp2;repeat (go_quiet (fail);try go_wp2)
  go_ret;exact ⟨RF,DR⟩

def qF.f (a0 : Int) (a1 : Int) : Option (List Int):=some (([mn a0 a1,mx a0 a1] : List Int))
theorem qF.calls (a0 : Int) (a1 : Int) (r : List Int) (w : World) (h : qF.f a0 a1 = some r) :
  Calls Try.prog 31 #[.int .i64 a0,.int .i64 a1] w fun e w'=>∃ v0_ : Value,e = .returned (v0_)∧Kd.R (Kd.int .i64) 3 w' w.heap.size (fun _=>True) v0_ r∧Below w.heap.size w w':=by
 have HB:=HRf w;have H : (some (([mn a0 a1,mx a0 a1] : List Int))) = some r:=h;clear h;obtain ⟨ji3,YZ⟩ : ∃ j_ : Int,(mn a0 a1) = j_:=⟨_,rfl⟩;replace H : (some (([ji3,mx a0 a1] : List Int))) = some r:=by first|(rw [YZ] at H;exact H)|(simp only [YZ] at H ⊢;exact H)
 have aEg : (if a1 < a0 then a1 else a0) = ji3:=YZ;obtain ⟨ji4,Y0⟩ : ∃ j_ : Int,(mx a0 a1) = j_:=⟨_,rfl⟩;replace H : (some (([ji3,ji4] : List Int))) = some r:=by first|(rw [Y0] at H;exact H)|(simp only [Y0] at H ⊢;exact H)
 have aEh : (if a0 < a1 then a1 else a0) = ji4:=Y0;obtain ⟨azs,adD⟩ : ∃ y_ : List Int,y_ = (([ji3,ji4] : List Int)):=⟨_,rfl⟩;replace H : (some azs) = some r:=HY H adD;have alO:=AM adD;clear adD;obtain rfl:=Option.some.inj H;go_enter Try.func31,Try.ntmps31;go_wp2_with (first|((with_reducible refine dG (N:=11) rfl ?_);refine Kd.pF (Kd.int .i64) _ 3 ?hg (N:=11) ?hd (xs:=([ji3,ji4] : List Int)) (inner:=[.int .i64 ji3,.int .i64 ji4]) (ok:=fun _=>True) (okp:=fun _=>True) ?hr ?hp (fun _ hk=>hk) trivial (Below.refl _ _) (Nat.le_refl _) (by simp) ?_;(case hd=>rfl);(case hg=>rfl);(case hr=>exact GS);(case hp=>exact (aT.one (show Kd.M (Kd.int .i64) _ _ _ ji3 [.int .i64 ji3] from rfl) (aT.one (show Kd.M (Kd.int .i64) _ _ _ ji4 [.int .i64 ji4] from rfl) (aT.none _ _))));intro aG4 w5 ho6 hb hg_ eY;clear hg_ eY;(first|rw [← alO.out] at ho6|(simp only [Int.reduceToNat] at ho6;rw [← alO.out] at ho6));have awg:=AM (Kd.bD ho6 (BZ BB));replace HB:=HS hb;clear hb ho6));go_ret;exact ⟨_,by first|rfl|(simp [mJ,mK] <;> rfl)|(simp only [← YZ,← Y0];first|rfl|(simp [mJ,mK] <;> rfl))|(simp [*,mJ,mK] <;> rfl),KR awg,BB⟩

def qx.f (k : Nat) (l0 : List Int) (l1 : List Int) (l2 : List Int) : Option (Bool):=if 0 < (l0.length : Int) then (if 1 < (l0.length : Int) then ((qF.f (rd l0 0) (rd l0 1)).bind fun Mr=>(if 0 < (l1.length : Int) then (if 0 < (l2.length : Int) then ((qF.f (rd l1 0) (rd l2 0)).bind fun Ms=>((jA.f k Mr Ms).bind fun U2=>(some U2))) else (none)) else (none))) else (none)) else (none)
theorem qx.mono : ∀ a0 a1 a2 k,LeO (qx.f k a0 a1 a2) (qx.f (k + 1) a0 a1 a2):=by
 intro a0 a1 a2 k;unfold qx.f
 have m0:=@jA.mono
 exact MO
def qx.T1 : Bool × List (List Nat × List Nat):=(true,[([],[]),([0],[0]),([1],[1]),([],[]),([3],[3]),([4],[4]),([2,5],[2,5]),([],[]),([],[]),([7,8,6],[7,8]),([6,9,9],[6,9]),([10,10,0,1,2,3,4,5,6,7,8,9,10],[10])])
def qx.B1 : List Nat:=[0,1,3,0,8,24,63,0,0,511,1023,2047]
theorem qx.KI : fC .any (opsOf Try.f52 1) = qx.T1:=by kernel_rfl
theorem qx.Jz : lN qx.T1.2 qx.B1 = true:=by kernel_rfl
theorem qx.calls (k : Nat) (A0 : Option Addr) (c0 : Nat) (l0 : List Int) (A1 : Option Addr) (c1 : Nat) (l1 : List Int) (A2 : Option Addr) (c2 : Nat) (l2 : List Int) (r : Bool) (w : World) (hr0 : Kd.C (Kd.int .i64) w A0 l0.length l0) (hc0 : l0.length ≤ c0) (hr1 : Kd.C (Kd.int .i64) w A1 l1.length l1) (hc1 : l1.length ≤ c1) (hr2 : Kd.C (Kd.int .i64) w A2 l2.length l2) (hc2 : l2.length ≤ c2) (h : qx.f k l0 l1 l2 = some r) :
  Calls Try.prog 52 #[.slice A0 l0.length c0,.pointer A1,.pointer A2] w fun e w'=>e = .returned (.bool r)∧Below w.heap.size w w':=by
 have HR0:=AM hr0;have HC0:=AM hc0;clear hr0 hc0;have HR1:=AM hr1;have HC1:=AM hc1;clear hr1 hc1;have HR2:=AM hr2;have HC2:=AM hc2;clear hr2 hc2;have HB:=HRf w;have H : (if 0 < (l0.length : Int) then (if 1 < (l0.length : Int) then ((qF.f (rd l0 0) (rd l0 1)).bind fun Mr=>(if 0 < (l1.length : Int) then (if 0 < (l2.length : Int) then ((qF.f (rd l1 0) (rd l2 0)).bind fun Ms=>((jA.f k Mr Ms).bind fun U2=>(some U2))) else (none)) else (none))) else (none)) else (none)) = some r:=h;clear h;replace H:=IC H;obtain ⟨c4,H⟩:=H;have iR:=DT c4;have JY : decide (0 < l0.length) = true:=DT (by omega);clear c4;replace H:=IC H;obtain ⟨c5,H⟩:=H;have ko:=DT c5;have Gw : decide (1 < l0.length) = true:=DT (by omega);clear c5;replace H:=EA H;obtain ⟨Mr,A6,H⟩:=H;replace H:=IC H;obtain ⟨c7,H⟩:=H;have kS:=DT c7;have Bb : decide (0 < l1.length) = true:=DT (by omega);clear c7;replace H:=IC H;obtain ⟨c8,H⟩:=H;have nU:=DT c8;have vD : decide (0 < l2.length) = true:=DT (by omega);clear c8;replace H:=EA H;obtain ⟨Ms,A9,H⟩:=H;replace H:=EA H;obtain ⟨U2,A10,H⟩:=H;obtain rfl:=Option.some.inj H;go_enter Try.func52,Try.ntmps52;try go_wp2
 replace HB:=AM (fA HB.out);have agy : 0 ≤ (0 : Int):=(by omega);have agz : 0 < (l0.length : Int):=OD AS;obtain ⟨Xr,azt,Nv⟩:=Kd.aN HR0.out 0 agy agz;have Jf:=Nv
 (try rw [show ((0 : Int)).toNat = 0 from rfl] at Jf)
 (try rw [show 0 * 1 = 0 from rfl] at Jf)
 (try rw [Addr.add_zero'] at Jf);cases azt;have aEi : (0 < l0.length) = True:=ET (by omega)
 (try rw [show ((0 : Int)).toNat = 0 from rfl] at Nv)
 (try rw [Addr.add_zero'] at Nv);try (replace Nv:=LC Nv)
 replace agy:=ET agy;replace agz:=ET agz;have agA : 0 ≤ (1 : Int):=(by omega);have agB : 1 < (l0.length : Int):=OD AS;obtain ⟨awh,azu,Nw⟩:=Kd.aN HR0.out 1 agA agB;have Jg:=Nw
 (try rw [show ((1 : Int)).toNat = 1 from rfl] at Jg)
 (try rw [show 1 * 1 = 1 from rfl] at Jg)
 (try simp only [Nat.reduceMul,Nat.reduceEqDiff,Go.Addr.add,↓reduceIte] at Jg);obtain rfl : Xr = awh:=(by injection azu)
 (try simp only [show (1 : Int).toNat = 1 from rfl,Nat.reduceMul,Nat.reduceEqDiff,Go.Addr.add,↓reduceIte] at Nw);have aEj : (1 < l0.length) = True:=ET (by omega)
 (try rw [show ((1 : Int)).toNat = 1 from rfl] at Nw);try (replace Nw:=LC Nw)
 replace agA:=ET agA;replace agB:=ET agB;have agC : 0 ≤ (0 : Int):=(by omega);have agD : 0 < (l1.length : Int):=OD AS;obtain ⟨awi,azv,Ny⟩:=Kd.aN HR1.out 0 agC agD;have Jh:=Ny
 (try rw [show ((0 : Int)).toNat = 0 from rfl] at Jh)
 (try rw [show 0 * 1 = 0 from rfl] at Jh)
 (try rw [Addr.add_zero'] at Jh);cases azv;have aEk : (0 < l1.length) = True:=ET (by omega)
 (try rw [show ((0 : Int)).toNat = 0 from rfl] at Ny)
 (try rw [Addr.add_zero'] at Ny);try (replace Ny:=LC Ny)
 replace agC:=ET agC;replace agD:=ET agD;have wP : 0 ≤ (0 : Int):=(by omega);have wQ : 0 < (l2.length : Int):=OD AS;obtain ⟨Xt,Mt,vX⟩:=Kd.aN HR2.out 0 wP wQ;have Ji:=vX
 (try rw [show ((0 : Int)).toNat = 0 from rfl] at Ji)
 (try rw [show 0 * 1 = 0 from rfl] at Ji)
 (try rw [Addr.add_zero'] at Ji);cases Mt;have aEl : (0 < l2.length) = True:=ET (by omega)
 (try rw [show ((0 : Int)).toNat = 0 from rfl] at vX)
 (try rw [Addr.add_zero'] at vX);try (replace vX:=LC vX)
 replace wP:=ET wP;replace wQ:=ET wQ;refine PSt (n:=12) (S:=fun w'=>w'.cell? Xr = some (.int .i64 (rd l0 0))∧w'.cell? ⟨Xr.block,Xr.off + 1,none⟩ = some (.int .i64 (rd l0 1))∧w'.cell? awi = some (.int .i64 (rd l1 0))∧w'.cell? Xt = some (.int .i64 (rd l2 0))) (ds:=[]) ⟨LC Jf,LC Jg,LC Jh,LC Ji⟩ (fun hHeld=>?_);refine lK qx.KI qx.Jz (fun HT_ HW_=>?_);generalize w.drew = w11 at HB Nv Nw Ny vX hHeld ⊢;refine PA 0 5 HT_ ?_;refine PA 1 6 HT_ ?_;refine PA 3 8 HT_ ?_;refine PA 4 9 HT_ ?_;refine PB 2 7 HT_ HW_ hHeld ?_;refine PB 5 10 HT_ HW_ hHeld ?_;refine PB 7 12 HT_ HW_ hHeld ?_;refine PB 8 13 HT_ HW_ hHeld ?_;refine PC 6 11 HT_ (fun K hK=>?_);refine iL Try.func31 (by kernel_rfl) rfl #[.int .i64 (rd l0 0),.int .i64 (rd l0 1)] (by rfl) rfl rfl TA ?_;with_reducible refine (qF.calls (rd l0 0) (rd l0 1) Mr _ A6.out).mono ?_;rintro e w12 ⟨aG5,rfl,ho0,hb⟩;refine ⟨_,rfl,?_⟩;have Oy:=AM (Kd.bD ho0 (BZ BB));replace HB:=HS hb;try clear hb ho0
 refine hK.out _ _ ⟨LC Jf,LC Jg,LC Jh,LC Ji⟩ (fun hHeld=>?_);clear hK K;refine iy (a':=?_) ?_ ?_;rotate_left
 ·show Act.put _ (some 11) _ = _;simp only [Act.put,List.setIfInBounds_toArray,List.set_cons_zero,List.set_cons_succ,dJ,eX];rfl
 refine PC 9 14 HT_ (fun K hK=>?_);refine iL Try.func31 (by kernel_rfl) rfl #[.int .i64 (rd l1 0),.int .i64 (rd l2 0)] (by rfl) rfl rfl TA ?_;with_reducible refine (qF.calls (rd l1 0) (rd l2 0) Ms _ A9.out).mono ?_;rintro e w13 ⟨aG6,rfl,ho0,hb⟩;refine ⟨_,rfl,?_⟩;have adE:=AM (Kd.bD (Kd.dM ho0 (Kd.bJ (KR Oy))) (BZ BB));replace Oy:=RO Oy ho0 hb;replace HB:=HS hb;try clear hb ho0
 obtain ⟨kR,jr,vw⟩:=Kd.bG Oy.out
 (first|subst vw|(injection vw with f1_ f2_ f3_;have f4_:=f1_.symm;have f5_:=f3_.symm;clear f1_ f2_ f3_;subst f4_;subst f5_));obtain ⟨uK,tq,GD⟩:=Kd.bG adE.out
 (first|subst GD|(injection GD with f1_ f2_ f3_;have f4_:=f1_.symm;have f5_:=f3_.symm;clear f1_ f2_ f3_;subst f4_;subst f5_));refine hK.out _ _ ⟨LC Jf,LC Jg,LC Jh,LC Ji⟩ (fun hHeld=>?_);clear hK K;refine iy (a':=?_) ?_ ?_;rotate_left
 ·show Act.put _ (some 14) _ = _;simp only [Act.put,List.setIfInBounds_toArray,List.set_cons_zero,List.set_cons_succ,dJ,eX];rfl
 refine PC 10 15 HT_ (fun K hK=>?_);refine iL Try.func30 (by kernel_rfl) rfl #[.slice kR Mr.length jr,.slice uK Ms.length tq] (by rfl) rfl rfl TA ?_;with_reducible refine (jA.calls k _ _ Mr _ _ Ms U2 _ ?aU ?aV ?eu ?eB A10.out).mono ?_
 (case aU=>exact CW (Kd.aA Oy.out).2.2)
 (case aV=>exact (Kd.aA Oy.out).2.1)
 (case eu=>exact CW (Kd.aA adE.out).2.2)
 (case eB=>exact (Kd.aA adE.out).2.1);rintro e w' ⟨rfl,⟨nd,rfl⟩⟩;refine ⟨_,rfl,?_⟩;refine hK.out _ _ ⟨LC Jf,LC Jg,LC Jh,LC Ji⟩ (fun hHeld=>?_);clear hK K;refine iy (a':=?_) ?_ ?_;rotate_left
 ·show Act.put _ (some 15) _ = _;simp only [Act.put,List.setIfInBounds_toArray,List.set_cons_zero,List.set_cons_succ,dJ,eX];rfl
 refine PA 11 4 HT_ ?_;refine l8 (l5 HT_.out (by kernel_rfl)) ?_;try go_wp2
 go_ret;exact ⟨RE,BB⟩

end Go.Proofs.Ythaonijhfeemfaa.dL
