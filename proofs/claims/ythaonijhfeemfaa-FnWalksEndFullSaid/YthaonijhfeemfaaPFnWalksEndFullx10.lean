-- Written by a program of this session (wip/tools/pp.sh) out of the translation; Lean checks it.
import Derived.Test.YthaonijhfeemfaaPFnWalksEndFullx6
namespace Go.Proofs.Ythaonijhfeemfaa.dL
open Go.RowKit Go.Proofs.YthaonijhfeemfaaOwn Go.Proofs.YthaonijhfeemfaaW.bU Go.Proofs.YthaonijhfeemfaaW.fB Go.Proofs.YthaonijhfeemfaaW.iw
attribute [local go_sem] nG nH nK nL nD nE nI nJ   -- for this text's walks alone
set_option linter.unusedVariables false
set_option maxHeartbeats 8000000
set_option maxRecDepth 100000
set_option linter.unusedSimpArgs false

def dV.l0 : Nat→List (List Int)→List (List Int)→Int→Int→Int→List Int→List (List Int)→List Int→Option ((List (List Int)))
 | 0,_,_,_,_,_,_,_,_=>none
 | k + 1,x6,x36,x37,x38,ZE,ZF,ZG,ZH=>if x38 < x37 then (if 0 ≤ x38 then (if x38 < (x36.length : Int) then (if 0 < ((ah x36 x38).length : Int) then (if 1 < ((ah x36 x38).length : Int) then ((yV.f ZE ZF ZG ZH (rd (ah x36 x38) 0) (rd (ah x36 x38) 1)).bind fun aeb=>(if aeb = true then (if x6.length < 5864062014805 then (dV.l0 k (x6 ++ [ah x36 x38]) x36 x37 (wrap64 (x38 + 1)) ZE ZF ZG ZH) else (none)) else (dV.l0 k x6 x36 x37 (wrap64 (x38 + 1)) ZE ZF ZG ZH))) else (none)) else (none)) else (none)) else (none)) else (some x6)
def dV.f (k : Nat) (aC : Int) (av : List Int) (aj : List (List Int)) (ay : List Int) (a1 : Int) : Option ((List (List Int))):=if 0 ≤ a1 then (if a1 < (aj.length : Int) then (if 0 < ((ah aj a1).length : Int) then (if 1 < ((ah aj a1).length : Int) then (if 2 < ((ah aj a1).length : Int) then ((some (([(([rd (ah aj a1) 0,rd (ah aj a1) 1] : List Int)),(([rd (ah aj a1) 0,rd (ah aj a1) 2] : List Int)),(([rd (ah aj a1) 1,rd (ah aj a1) 2] : List Int))] : List (List Int)) : List (List Int))).bind fun dX=>(dV.l0 k (([] : List (List Int))) dX (dX.length : Int) 0 aC av aj ay)) else (none)) else (none)) else (none)) else (none)) else (none)
theorem dV.bC : ∀ k,(∀ y0 y1 y2 y3 y4 y5 y6 y7,LeO (dV.l0 k y0 y1 y2 y3 y4 y5 y6 y7) (dV.l0 (k + 1) y0 y1 y2 y3 y4 y5 y6 y7))
 | 0=>fun _ _ _ _ _ _ _ _ r h=>by simp [dV.l0] at h
 | k + 1=>by
  have ih0:=dV.bC k
  ·intro y0 y1 y2 y3 y4 y5 y6 y7
   unfold dV.l0
   exact MO
theorem dV.mono : ∀ a0 a1 a2 a3 a4 k,LeO (dV.f k a0 a1 a2 a3 a4) (dV.f (k + 1) a0 a1 a2 a3 a4):=by
 intro a0 a1 a2 a3 a4 k;have ih0:=dV.bC k;unfold dV.f
 exact MO
def dV.T2 : Bool × List (List Nat × List Nat):=(true,[([],[]),([0],[0]),([1],[1]),([],[]),([3],[3]),([4],[4]),([2,5],[2,5]),([],[]),([7],[7]),([8],[8]),([],[]),([10],[10]),([11],[11]),([9,12],[9,12]),([],[]),([14],[14]),([15],[15]),([],[]),([17],[17]),([18],[18]),([16,19],[16,19]),([6,13,20],[6,13,20]),([21],[21]),([],[])])
def dV.B2 : List Nat:=[0,1,3,0,8,24,63,0,128,384,0,1024,3072,8064,0,16384,49152,0,131072,393216,1032192,2097151,4194303,0]
theorem dV.Tp : fC .any (opsOf Try.f43 2) = dV.T2:=by kernel_rfl
theorem dV.RY : lN dV.T2.2 dV.B2 = true:=by kernel_rfl
def dV.T5 : Bool × List (List Nat × List Nat):=(true,[([],[]),([],[]),([1],[1]),([2],[2]),([],[]),([4],[4]),([5],[5]),([0,3,6],[0,3,6])])
def dV.B5 : List Nat:=[0,0,2,6,0,16,48,127]
theorem dV.XA : fC .any (opsOf Try.f43 5) = dV.T5:=by kernel_rfl
theorem dV.WA : lN dV.T5.2 dV.B5 = true:=by kernel_rfl
theorem dV.calls (k : Nat) (aC : Int) (aX : Option Addr) (aY : Nat) (av : List Int) (bA : Option Addr) (aW : Nat) (aj : List (List Int)) (bn : Option Addr) (aZ : Nat) (ay : List Int) (a1 : Int) (r : List (List Int)) (w : World) (kC : Kd.C (Kd.int .i64) w aX av.length av) (kD : av.length ≤ aY) (kE : Kd.C (Kd.slice 3 (Kd.int .i64)) w bA aj.length aj) (kF : aj.length ≤ aW) (kG : Kd.C (Kd.int .i64) w bn ay.length ay) (kH : ay.length ≤ aZ) (h : dV.f k aC av aj ay a1 = some r) :
  Calls Try.prog 43 #[.agg #[.int .i64 aC,.slice aX av.length aY,.slice bA aj.length aW,.slice bn ay.length aZ],.int .i64 a1] w fun e w'=>∃ v0_ : Value,e = .returned (v0_)∧Kd.N (Kd.slice 3 (Kd.int .i64)) 24 w' w.heap.size (fun k_=>(w.heap.size ≤ k_)) v0_ r∧Below w.heap.size w w':=by
 have uH:=Try.underlying43;have eZ:=AM kC;have oK:=AM kD;clear kC kD;have mD:=AM kE;have oo:=AM kF;clear kE kF;have nQ:=AM kG;have oL:=AM kH;clear kG kH;have HB:=HRf w;have H : (if 0 ≤ a1 then (if a1 < (aj.length : Int) then (if 0 < ((ah aj a1).length : Int) then (if 1 < ((ah aj a1).length : Int) then (if 2 < ((ah aj a1).length : Int) then ((some (([(([rd (ah aj a1) 0,rd (ah aj a1) 1] : List Int)),(([rd (ah aj a1) 0,rd (ah aj a1) 2] : List Int)),(([rd (ah aj a1) 1,rd (ah aj a1) 2] : List Int))] : List (List Int)) : List (List Int))).bind fun dX=>(dV.l0 k (([] : List (List Int))) dX (dX.length : Int) 0 aC av aj ay)) else (none)) else (none)) else (none)) else (none)) else (none)) = some r:=h;clear h;replace H:=IC H;obtain ⟨c3,H⟩:=H;have iQ:=DT c3;clear c3;replace H:=IC H;obtain ⟨c4,H⟩:=H;have iR:=DT c4;clear c4;obtain ⟨J8,ab4⟩ : ∃ y_ : List (List Int),y_ = (([] : List (List Int))):=⟨_,rfl⟩;replace H : (if 0 < ((ah aj a1).length : Int) then (if 1 < ((ah aj a1).length : Int) then (if 2 < ((ah aj a1).length : Int) then ((some (([(([rd (ah aj a1) 0,rd (ah aj a1) 1] : List Int)),(([rd (ah aj a1) 0,rd (ah aj a1) 2] : List Int)),(([rd (ah aj a1) 1,rd (ah aj a1) 2] : List Int))] : List (List Int)) : List (List Int))).bind fun dX=>(dV.l0 k J8 dX (dX.length : Int) 0 aC av aj ay)) else (none)) else (none)) else (none)) = some r:=HY H ab4;have ab5:=AM ab4;clear ab4;replace H:=IC H;obtain ⟨c5,H⟩:=H;have ko:=DT c5;have Gw : decide (0 < (ah aj a1).length) = true:=DT (by omega);clear c5;replace H:=IC H;obtain ⟨c6,H⟩:=H;have iA:=DT c6;have uG : decide (1 < (ah aj a1).length) = true:=DT (by omega);clear c6;obtain ⟨zF,ab6⟩ : ∃ y_ : List Int,y_ = (([rd (ah aj a1) 0,rd (ah aj a1) 1] : List Int)):=⟨_,rfl⟩;replace H : (if 2 < ((ah aj a1).length : Int) then ((some (([zF,(([rd (ah aj a1) 0,rd (ah aj a1) 2] : List Int)),(([rd (ah aj a1) 1,rd (ah aj a1) 2] : List Int))] : List (List Int)) : List (List Int))).bind fun dX=>(dV.l0 k J8 dX (dX.length : Int) 0 aC av aj ay)) else (none)) = some r:=HY H ab6;have aky:=AM ab6;clear ab6;replace H:=IC H;obtain ⟨c7,H⟩:=H;have kS:=DT c7;have Bb : decide (2 < (ah aj a1).length) = true:=DT (by omega);clear c7;obtain ⟨Bc,ab7⟩ : ∃ y_ : List Int,y_ = (([rd (ah aj a1) 0,rd (ah aj a1) 2] : List Int)):=⟨_,rfl⟩;replace H : ((some (([zF,Bc,(([rd (ah aj a1) 1,rd (ah aj a1) 2] : List Int))] : List (List Int)) : List (List Int))).bind fun dX=>(dV.l0 k J8 dX (dX.length : Int) 0 aC av aj ay)) = some r:=HY H ab7;have akz:=AM ab7;clear ab7;obtain ⟨CZ,ab8⟩ : ∃ y_ : List Int,y_ = (([rd (ah aj a1) 1,rd (ah aj a1) 2] : List Int)):=⟨_,rfl⟩;replace H : ((some (([zF,Bc,CZ] : List (List Int)) : List (List Int))).bind fun dX=>(dV.l0 k J8 dX (dX.length : Int) 0 aC av aj ay)) = some r:=HY H ab8;have akA:=AM ab8;clear ab8;obtain ⟨dX,ab9⟩ : ∃ y_ : List (List Int),y_ = (([zF,Bc,CZ] : List (List Int))):=⟨_,rfl⟩;replace H : (dV.l0 k J8 dX (dX.length : Int) 0 aC av aj ay) = some r:=HY H ab9;have akB:=AM ab9;clear ab9;have H':=AM H;clear H;go_enter Try.func43,Try.ntmps43;try go_wp2_with (first|((with_reducible refine dG (N:=2) rfl ?_);refine gq ?hg (N:=2) ?hd (cs:=#[.int .i64 aC,.slice aX av.length aY,.slice bA aj.length aW,.slice bn ay.length aZ]) (t:=43) ?hr ?_;(case hd=>rfl);(case hg=>rfl);(case hr=>exact GS);intro gU hg w8 aJ hb;have bX:=AM aJ;have aCm:=AM ((by rw [hg];exact (BZ BB) : w.heap.size ≤ gU));have nu:=AM ((by rw [hg];exact (BZ BB) : w.heap.size ≤ gU));replace HB:=HS hb;clear hb aJ hg;have Ro : w8.cell? ⟨gU,0,none⟩ = some (.int .i64 aC):=(BC bX.out 0).trans rfl;have Rp : w8.cell? ⟨gU,1,none⟩ = some (.slice aX av.length aY):=(BC bX.out 1).trans rfl;have Rq : w8.cell? ⟨gU,2,none⟩ = some (.slice bA aj.length aW):=(BC bX.out 2).trans rfl;have VZ : w8.cell? ⟨gU,3,none⟩ = some (.slice bn ay.length aZ):=(BC bX.out 3).trans rfl;have V3:=BF bX.out 0;have Rs:=BF bX.out 1;have Rt:=BF bX.out 2;have V4:=BF bX.out 3;have XB : 0 ≤ (a1 : Int):=OD AS;have XC : a1 < (aj.length : Int):=OD AS;obtain ⟨uh,aBp,NG,awK,ZI,ah5,ah6⟩:=gT mD.out a1 XB XC;cases awK;replace ZI:=LC ZI;have MP:=AM ah6;have az5:=AM ah5;clear ah6 ah5;replace XB:=ET XB;replace XC:=ET XC)|((with_reducible refine dG (N:=14) rfl ?_);refine Kd.as9 (Kd.slice 3 (Kd.int .i64)) _ 24 ?hg (N':=14) ?hd (xs:=([] : List (List Int))) (inner:=[]) (ok:=(fun k_=>(w.heap.size ≤ k_)∧k_≠gU)) (okp:=(fun k_=>(w.heap.size ≤ k_)∧k_≠gU)) ?hr ?hp (fun _ hk=>hk) ((show ∀ k_,w8.heap.size ≤ k_→(fun k_=>(w.heap.size ≤ k_)∧k_≠gU) k_ from fun k_ hk=>⟨(Nat.le_trans (BZ (AGE nu)) hk),Kd.xw (g:=gU) (o:=.cells #[.int .i64 aC,.slice aX av.length aY,.slice (some uh) aj.length aW,.slice bn ay.length aZ] 43 (0,0)) (BW bX) k_ hk⟩) _ (Nat.le_refl _)) (Below.refl _ _) (Nat.le_refl _) (by simp) ?_;(case hd=>rfl);(case hg=>rfl);(case hr=>exact GS);(case hp=>exact (aT.none _ _));intro Bd w10 Tq hb hg_ eY;clear hg_ eY;(first|rw [← ab5.out] at Tq|(simp only [Int.reduceToNat] at Tq;rw [← ab5.out] at Tq));have iF:=AM (Kd.Vx Tq (BZ (AGE nu)));replace bX:=AM (eU (g:=gU) (o:=.cells #[.int .i64 aC,.slice aX av.length aY,.slice (some uh) aj.length aW,.slice bn ay.length aZ] 43 (0,0)) (BW bX) hb);replace HB:=HG nu hb;clear hb Tq))
 replace iF:=AM (Kd.xu iF.out);replace bX:=AM (bL bX.out);replace HB:=AM (fA HB.out);have XD : 0 ≤ (0 : Int):=(by omega);have XE : 0 < ((ah aj a1).length : Int):=OD AS;obtain ⟨fT,awL,Ib⟩:=Kd.aN MP.out 0 XD XE;have P9:=Ib
 (try rw [show ((0 : Int)).toNat = 0 from rfl] at P9)
 (try rw [show 0 * 1 = 0 from rfl] at P9)
 (try rw [Addr.add_zero'] at P9);cases awL;have aCn : (0 < (ah aj a1).length) = True:=ET (by omega)
 (try rw [show ((0 : Int)).toNat = 0 from rfl] at Ib)
 (try rw [Addr.add_zero'] at Ib);try (replace Ib:=LC Ib)
 replace XD:=ET XD;replace XE:=ET XE;have XF : 0 ≤ (1 : Int):=(by omega);have XG : 1 < ((ah aj a1).length : Int):=OD AS;obtain ⟨ata,awM,Ic⟩:=Kd.aN MP.out 1 XF XG;have Qa:=Ic
 (try rw [show ((1 : Int)).toNat = 1 from rfl] at Qa)
 (try rw [show 1 * 1 = 1 from rfl] at Qa)
 (try simp only [Nat.reduceMul,Nat.reduceEqDiff,Go.Addr.add,↓reduceIte] at Qa);obtain rfl : fT = ata:=(by injection awM)
 (try simp only [show (1 : Int).toNat = 1 from rfl,Nat.reduceMul,Nat.reduceEqDiff,Go.Addr.add,↓reduceIte] at Ic);have aCo : (1 < (ah aj a1).length) = True:=ET (by omega)
 (try rw [show ((1 : Int)).toNat = 1 from rfl] at Ic);try (replace Ic:=LC Ic)
 replace XF:=ET XF;replace XG:=ET XG;have XH : 0 ≤ (0 : Int):=(by omega);have XI : 0 < ((ah aj a1).length : Int):=OD AS;obtain ⟨atb,awN,Ie⟩:=Kd.aN MP.out 0 XH XI;have Qb:=Ie
 (try rw [show ((0 : Int)).toNat = 0 from rfl] at Qb)
 (try rw [show 0 * 1 = 0 from rfl] at Qb)
 (try rw [Addr.add_zero'] at Qb);obtain rfl : fT = atb:=(by injection awN);have aCp : (0 < (ah aj a1).length) = True:=ET (by omega)
 (try rw [show ((0 : Int)).toNat = 0 from rfl] at Ie)
 (try rw [Addr.add_zero'] at Ie);try (replace Ie:=LC Ie)
 replace XH:=ET XH;replace XI:=ET XI;have XJ : 0 ≤ (2 : Int):=(by omega);have XK : 2 < ((ah aj a1).length : Int):=OD AS;obtain ⟨atc,awO,Ig⟩:=Kd.aN MP.out 2 XJ XK;have Qc:=Ig
 (try rw [show ((2 : Int)).toNat = 2 from rfl] at Qc)
 (try rw [show 2 * 1 = 2 from rfl] at Qc)
 (try simp only [Nat.reduceMul,Nat.reduceEqDiff,Go.Addr.add,↓reduceIte] at Qc);obtain rfl : fT = atc:=(by injection awO)
 (try simp only [show (2 : Int).toNat = 2 from rfl,Nat.reduceMul,Nat.reduceEqDiff,Go.Addr.add,↓reduceIte] at Ig);have aCq : (2 < (ah aj a1).length) = True:=ET (by omega)
 (try rw [show ((2 : Int)).toNat = 2 from rfl] at Ig);try (replace Ig:=LC Ig)
 replace XJ:=ET XJ;replace XK:=ET XK;have XL : 0 ≤ (1 : Int):=(by omega);have XM : 1 < ((ah aj a1).length : Int):=OD AS;obtain ⟨atd,awP,Ih⟩:=Kd.aN MP.out 1 XL XM;have Qd:=Ih
 (try rw [show ((1 : Int)).toNat = 1 from rfl] at Qd)
 (try rw [show 1 * 1 = 1 from rfl] at Qd)
 (try simp only [Nat.reduceMul,Nat.reduceEqDiff,Go.Addr.add,↓reduceIte] at Qd);obtain rfl : fT = atd:=(by injection awP)
 (try simp only [show (1 : Int).toNat = 1 from rfl,Nat.reduceMul,Nat.reduceEqDiff,Go.Addr.add,↓reduceIte] at Ih);have aCr : (1 < (ah aj a1).length) = True:=ET (by omega)
 (try rw [show ((1 : Int)).toNat = 1 from rfl] at Ih);try (replace Ih:=LC Ih)
 replace XL:=ET XL;replace XM:=ET XM;have XO : 0 ≤ (2 : Int):=(by omega);have XP : 2 < ((ah aj a1).length : Int):=OD AS;obtain ⟨ate,awQ,Ii⟩:=Kd.aN MP.out 2 XO XP;have Qe:=Ii
 (try rw [show ((2 : Int)).toNat = 2 from rfl] at Qe)
 (try rw [show 2 * 1 = 2 from rfl] at Qe)
 (try simp only [Nat.reduceMul,Nat.reduceEqDiff,Go.Addr.add,↓reduceIte] at Qe);obtain rfl : fT = ate:=(by injection awQ)
 (try simp only [show (2 : Int).toNat = 2 from rfl,Nat.reduceMul,Nat.reduceEqDiff,Go.Addr.add,↓reduceIte] at Ii);have aCs : (2 < (ah aj a1).length) = True:=ET (by omega)
 (try rw [show ((2 : Int)).toNat = 2 from rfl] at Ii);try (replace Ii:=LC Ii)
 replace XO:=ET XO;replace XP:=ET XP;refine PSt (n:=24) (S:=fun w'=>True) (ds:=[]) trivial (fun hHeld=>?_);refine lK dV.Tp dV.RY (fun HT_ HW_=>?_);generalize w10.drew = w12 at iF bX HB Ib Ic Ie Ig Ih Ii hHeld ⊢;refine PA 0 15 HT_ ?_;refine PA 3 18 HT_ ?_;refine PA 7 22 HT_ ?_;refine PA 10 25 HT_ ?_;refine PA 14 29 HT_ ?_;refine PA 17 32 HT_ ?_;refine PA 23 38 HT_ ?_;refine arE [1,2,4,5,6,8,9,11,12,13,15,16,18,19,20,21,22] (fun a0_ b a w'=>∃ (jg : Value) (jh : Value) (ji : Value) (jK : Value),a = qJ a0_ b [(1,16,.pointer (some fT)),(2,17,.int .i64 (rd (ah aj a1) 0)),(4,19,.pointer (some (fT.add 1))),(5,20,.int .i64 (rd (ah aj a1) 1)),(6,21,jg),(8,23,.pointer (some fT)),(9,24,.int .i64 (rd (ah aj a1) 0)),(11,26,.pointer (some (fT.add 2))),(12,27,.int .i64 (rd (ah aj a1) 2)),(13,28,jh),(15,30,.pointer (some (fT.add 1))),(16,31,.int .i64 (rd (ah aj a1) 1)),(18,33,.pointer (some (fT.add 2))),(19,34,.int .i64 (rd (ah aj a1) 2)),(20,35,ji),(21,36,jK),(22,37,.int .i64 (dX.length : Int))]∧(Kd.N (Kd.slice 3 (Kd.int .i64)) 24 w' w.heap.size (fun k_=>(w.heap.size ≤ k_)∧k_≠gU) Bd J8)∧(w'.heap[gU]? = some (.cells #[.int .i64 aC,.slice aX av.length aY,.slice (some uh) aj.length aW,.slice bn ay.length aZ] 43 (0,0)))∧(Below w.heap.size w w')∧(b 6 = true→b 21 = false→Kd.R (Kd.int .i64) 3 w' w.heap.size (fun k_=>(w.heap.size ≤ k_)) jg zF)∧(b 13 = true→b 21 = false→Kd.R (Kd.int .i64) 3 w' w.heap.size (fun k_=>(w.heap.size ≤ k_)) jh Bc)∧(b 20 = true→b 21 = false→Kd.R (Kd.int .i64) 3 w' w.heap.size (fun k_=>(w.heap.size ≤ k_)) ji CZ)∧(b 21 = true→Kd.N (Kd.slice 3 (Kd.int .i64)) 24 w' w.heap.size (fun k_=>(w.heap.size ≤ k_)∧some k_≠(Bd : Value).ownBlock∧k_≠gU) jK dX)) HT_.out HW_.out (by kernel_rfl) (by kernel_rfl) ?_ ?_ ?_
 ·exact ⟨.bool false,.bool false,.bool false,.bool false,by simp only [qJ,Bool.false_eq_true,if_false],iF.out,bX.out,HB.out,fun h_=>absurd h_ (by decide),fun h_=>absurd h_ (by decide),fun h_=>absurd h_ (by decide),fun h_=>absurd h_ (by decide)⟩
 ·skip
  clear bX HB iF;refine tO ?_ ?_
  ·rintro b a w' ⟨jg,jh,ji,jK,ha,gP,gQ,gX,lX,lY,lZ,qG⟩ hb_ hon hoff;refine ⟨_,rfl,fun K hK=>?_⟩;have e15 : a.tmps[15]? = some (.slice (some fT) (ah aj a1).length NG):=by rw [ha];exact (Dq rfl).trans rfl
   replace ha:=AM ha;have iF:=AM gP;have bX:=AM gQ;have HB:=AM gX;have awR : w'.cell? fT = some (.int .i64 (rd (ah aj a1) 0)):=(LC P9);refine xA (w1:=w') (v:=.pointer (some fT)) (by rfl) rfl ?_ ?_
   ·exact PG
   refine hK.out _ _ ⟨jg,jh,ji,jK,(by rw [ha.out];exact tQ 0 hb_ rfl rfl rfl),gP,gQ,gX,fun h0_ _=>absurd ((hoff 6 (by kernel_rfl)).symm.trans h0_) (by decide),lY,lZ,fun h0_=>absurd ((hoff 21 (by kernel_rfl)).symm.trans h0_) (by decide)⟩
  refine tO ?_ ?_
  ·rintro b a w' ⟨jg,jh,ji,jK,ha,gP,gQ,gX,lX,lY,lZ,qG⟩ hb_ hon hoff;refine ⟨_,rfl,fun K hK=>?_⟩;have e16 : a.tmps[16]? = some (.pointer (some fT)):=by rw [ha];exact tT (e:=(1,16,.pointer (some fT))) 0 rfl rfl (hon 1 (by kernel_rfl)) rfl
   replace ha:=AM ha;have iF:=AM gP;have bX:=AM gQ;have HB:=AM gX;have awR : w'.cell? fT = some (.int .i64 (rd (ah aj a1) 0)):=(LC P9);refine xA (w1:=w') (v:=.int .i64 (rd (ah aj a1) 0)) (by rfl) rfl ?_ ?_
   ·exact PG
   refine hK.out _ _ ⟨jg,jh,ji,jK,(by rw [ha.out];exact tQ 1 hb_ rfl rfl rfl),gP,gQ,gX,fun h0_ _=>absurd ((hoff 6 (by kernel_rfl)).symm.trans h0_) (by decide),lY,lZ,fun h0_=>absurd ((hoff 21 (by kernel_rfl)).symm.trans h0_) (by decide)⟩
  refine tO ?_ ?_
  ·rintro b a w' ⟨jg,jh,ji,jK,ha,gP,gQ,gX,lX,lY,lZ,qG⟩ hb_ hon hoff;refine ⟨_,rfl,fun K hK=>?_⟩;have e18 : a.tmps[18]? = some (.slice (some fT) (ah aj a1).length NG):=by rw [ha];exact (Dq rfl).trans rfl
   replace ha:=AM ha;have iF:=AM gP;have bX:=AM gQ;have HB:=AM gX;have awS : w'.cell? ⟨fT.block,fT.off + 1,none⟩ = some (.int .i64 (rd (ah aj a1) 1)):=(LC Qa);refine xA (w1:=w') (v:=.pointer (some (fT.add 1))) (by rfl) rfl ?_ ?_
   ·exact PG
   refine hK.out _ _ ⟨jg,jh,ji,jK,(by rw [ha.out];exact tQ 2 hb_ rfl rfl rfl),gP,gQ,gX,fun h0_ _=>absurd ((hoff 6 (by kernel_rfl)).symm.trans h0_) (by decide),lY,lZ,fun h0_=>absurd ((hoff 21 (by kernel_rfl)).symm.trans h0_) (by decide)⟩
  refine tO ?_ ?_
  ·rintro b a w' ⟨jg,jh,ji,jK,ha,gP,gQ,gX,lX,lY,lZ,qG⟩ hb_ hon hoff;refine ⟨_,rfl,fun K hK=>?_⟩;have e19 : a.tmps[19]? = some (.pointer (some (fT.add 1))):=by rw [ha];exact tT (e:=(4,19,.pointer (some (fT.add 1)))) 2 rfl rfl (hon 4 (by kernel_rfl)) rfl
   replace ha:=AM ha;have iF:=AM gP;have bX:=AM gQ;have HB:=AM gX;have awS : w'.cell? ⟨fT.block,fT.off + 1,none⟩ = some (.int .i64 (rd (ah aj a1) 1)):=(LC Qa);refine xA (w1:=w') (v:=.int .i64 (rd (ah aj a1) 1)) (by rfl) rfl ?_ ?_
   ·exact PG
   refine hK.out _ _ ⟨jg,jh,ji,jK,(by rw [ha.out];exact tQ 3 hb_ rfl rfl rfl),gP,gQ,gX,fun h0_ _=>absurd ((hoff 6 (by kernel_rfl)).symm.trans h0_) (by decide),lY,lZ,fun h0_=>absurd ((hoff 21 (by kernel_rfl)).symm.trans h0_) (by decide)⟩
  refine tO ?_ ?_
  ·rintro b a w' ⟨jg,jh,ji,jK,ha,gP,gQ,gX,lX,lY,lZ,qG⟩ hb_ hon hoff;refine ⟨_,rfl,fun K hK=>?_⟩;have e17 : a.tmps[17]? = some (.int .i64 (rd (ah aj a1) 0)):=by rw [ha];exact tT (e:=(2,17,.int .i64 (rd (ah aj a1) 0))) 1 rfl rfl (hon 2 (by kernel_rfl)) rfl
   have e20 : a.tmps[20]? = some (.int .i64 (rd (ah aj a1) 1)):=by rw [ha];exact tT (e:=(5,20,.int .i64 (rd (ah aj a1) 1))) 3 rfl rfl (hon 5 (by kernel_rfl)) rfl
   replace ha:=AM ha;have iF:=AM gP;have bX:=AM gQ;have HB:=AM gX;refine Kd.Px (Kd.int .i64) _ 3 ?hg (N:=21) ?hd (xs:=([rd (ah aj a1) 0,rd (ah aj a1) 1] : List Int)) (inner:=[.int .i64 (rd (ah aj a1) 0),.int .i64 (rd (ah aj a1) 1)]) (ok:=fun _=>True) (okp:=fun _=>True) ?hr ?hp (fun _ hk=>hk) trivial (Below.refl _ _) (Nat.le_refl _) (by simp) ?_;(case hd=>rfl);(case hg=>rfl);(case hr=>exact GS);(case hp=>exact (aT.one (show Kd.M (Kd.int .i64) _ _ _ (rd (ah aj a1) 0) [.int .i64 (rd (ah aj a1) 0)] from rfl) (aT.one (show Kd.M (Kd.int .i64) _ _ _ (rd (ah aj a1) 1) [.int .i64 (rd (ah aj a1) 1)] from rfl) (aT.none _ _))));intro jg w13 lU hb hg_ eY;clear hg_ eY
   (first|rw [← aky.out] at lU|(simp only [Int.reduceToNat] at lU;rw [← aky.out] at lU));have n0_:=AM (Kd.PZ (KN iF) (Kd.oh lU) hb);have n1_:=AM (Kd.bD (Kd.Cx (M:=fun k_=>(w.heap.size ≤ k_)) lU (BZ (AGE nu)) (fun k_ h_=>h_)) (BZ (AGE nu)));have n2_:=AM (eU (g:=gU) (o:=.cells #[.int .i64 aC,.slice aX av.length aY,.slice (some uh) aj.length aW,.slice bn ay.length aZ] 43 (0,0)) (BW bX) hb);have n3_:=HG nu hb;have ZJ:=fun (h0_ : b 13 = true) (h1_ : b 21 = false)=>(show Kd.R (Kd.int .i64) 3 w13 w.heap.size (fun k_=>(w.heap.size ≤ k_)) jh Bc from by first|exact (Kd.vP (by (with_reducible repeat (first|apply Kd.dh|apply Kd.dn|apply Kd.bF));exact (lY h0_ h1_)) (Kd.oh lU) hb)|exact Kd.aM (Kd.vP (by (with_reducible repeat (first|apply Kd.dh|apply Kd.dn|apply Kd.bF));exact (lY h0_ h1_)) (Kd.oh lU) hb) (fun _ h_=>by first|trivial|exact h_|exact h_.1))
   have ZK:=fun (h0_ : b 20 = true) (h1_ : b 21 = false)=>(show Kd.R (Kd.int .i64) 3 w13 w.heap.size (fun k_=>(w.heap.size ≤ k_)) ji CZ from by first|exact (Kd.vP (by (with_reducible repeat (first|apply Kd.dh|apply Kd.dn|apply Kd.bF));exact (lZ h0_ h1_)) (Kd.oh lU) hb)|exact Kd.aM (Kd.vP (by (with_reducible repeat (first|apply Kd.dh|apply Kd.dn|apply Kd.bF));exact (lZ h0_ h1_)) (Kd.oh lU) hb) (fun _ h_=>by first|trivial|exact h_|exact h_.1))
   clear iF;clear bX;clear HB;have iF:=n0_;have NW:=n1_;have bX:=n2_;have HB:=n3_;clear n0_ n1_ n2_ n3_;clear hb lU;refine hK.out _ _ ⟨jg,jh,ji,jK,(by rw [ha.out];exact tQ 4 hb_ rfl rfl rfl),(by (with_reducible repeat (first|apply Kd.Fh|apply Kd.Fj|apply Kd.xu));exact Kd.Aj iF.out (fun _ hk=>by first|exact ⟨hk.1.1,⟨hk.2,hk.1.2⟩⟩|exact hk.1|exact hk)),(BW bX),(AGE nu),fun _ _=>(by (with_reducible repeat (first|apply Kd.dh|apply Kd.dn|apply Kd.bF));exact Kd.aM NW.out (fun _ hk=>hk.1)),ZJ,ZK,fun h0_=>absurd ((hoff 21 (by kernel_rfl)).symm.trans h0_) (by decide)⟩
  refine tO ?_ ?_
  ·rintro b a w' ⟨jg,jh,ji,jK,ha,gP,gQ,gX,lX,lY,lZ,qG⟩ hb_ hon hoff;refine ⟨_,rfl,fun K hK=>?_⟩;have e22 : a.tmps[22]? = some (.slice (some fT) (ah aj a1).length NG):=by rw [ha];exact (Dq rfl).trans rfl
   replace ha:=AM ha;have iF:=AM gP;have bX:=AM gQ;have HB:=AM gX;have awT : w'.cell? fT = some (.int .i64 (rd (ah aj a1) 0)):=(LC Qb);refine xA (w1:=w') (v:=.pointer (some fT)) (by rfl) rfl ?_ ?_
   ·exact PG
   refine hK.out _ _ ⟨jg,jh,ji,jK,(by rw [ha.out];exact tQ 5 hb_ rfl rfl rfl),gP,gQ,gX,lX,fun h0_ _=>absurd ((hoff 13 (by kernel_rfl)).symm.trans h0_) (by decide),lZ,fun h0_=>absurd ((hoff 21 (by kernel_rfl)).symm.trans h0_) (by decide)⟩
  refine tO ?_ ?_
  ·rintro b a w' ⟨jg,jh,ji,jK,ha,gP,gQ,gX,lX,lY,lZ,qG⟩ hb_ hon hoff;refine ⟨_,rfl,fun K hK=>?_⟩;have e23 : a.tmps[23]? = some (.pointer (some fT)):=by rw [ha];exact tT (e:=(8,23,.pointer (some fT))) 5 rfl rfl (hon 8 (by kernel_rfl)) rfl
   replace ha:=AM ha;have iF:=AM gP;have bX:=AM gQ;have HB:=AM gX;have awT : w'.cell? fT = some (.int .i64 (rd (ah aj a1) 0)):=(LC Qb);refine xA (w1:=w') (v:=.int .i64 (rd (ah aj a1) 0)) (by rfl) rfl ?_ ?_
   ·exact PG
   refine hK.out _ _ ⟨jg,jh,ji,jK,(by rw [ha.out];exact tQ 6 hb_ rfl rfl rfl),gP,gQ,gX,lX,fun h0_ _=>absurd ((hoff 13 (by kernel_rfl)).symm.trans h0_) (by decide),lZ,fun h0_=>absurd ((hoff 21 (by kernel_rfl)).symm.trans h0_) (by decide)⟩
  refine tO ?_ ?_
  ·rintro b a w' ⟨jg,jh,ji,jK,ha,gP,gQ,gX,lX,lY,lZ,qG⟩ hb_ hon hoff;refine ⟨_,rfl,fun K hK=>?_⟩;have e25 : a.tmps[25]? = some (.slice (some fT) (ah aj a1).length NG):=by rw [ha];exact (Dq rfl).trans rfl
   replace ha:=AM ha;have iF:=AM gP;have bX:=AM gQ;have HB:=AM gX;have awU : w'.cell? ⟨fT.block,fT.off + 2,none⟩ = some (.int .i64 (rd (ah aj a1) 2)):=(LC Qc);refine xA (w1:=w') (v:=.pointer (some (fT.add 2))) (by rfl) rfl ?_ ?_
   ·exact PG
   refine hK.out _ _ ⟨jg,jh,ji,jK,(by rw [ha.out];exact tQ 7 hb_ rfl rfl rfl),gP,gQ,gX,lX,fun h0_ _=>absurd ((hoff 13 (by kernel_rfl)).symm.trans h0_) (by decide),lZ,fun h0_=>absurd ((hoff 21 (by kernel_rfl)).symm.trans h0_) (by decide)⟩
  refine tO ?_ ?_
  ·rintro b a w' ⟨jg,jh,ji,jK,ha,gP,gQ,gX,lX,lY,lZ,qG⟩ hb_ hon hoff;refine ⟨_,rfl,fun K hK=>?_⟩;have e26 : a.tmps[26]? = some (.pointer (some (fT.add 2))):=by rw [ha];exact tT (e:=(11,26,.pointer (some (fT.add 2)))) 7 rfl rfl (hon 11 (by kernel_rfl)) rfl
   replace ha:=AM ha;have iF:=AM gP;have bX:=AM gQ;have HB:=AM gX;have awU : w'.cell? ⟨fT.block,fT.off + 2,none⟩ = some (.int .i64 (rd (ah aj a1) 2)):=(LC Qc);refine xA (w1:=w') (v:=.int .i64 (rd (ah aj a1) 2)) (by rfl) rfl ?_ ?_
   ·exact PG
   refine hK.out _ _ ⟨jg,jh,ji,jK,(by rw [ha.out];exact tQ 8 hb_ rfl rfl rfl),gP,gQ,gX,lX,fun h0_ _=>absurd ((hoff 13 (by kernel_rfl)).symm.trans h0_) (by decide),lZ,fun h0_=>absurd ((hoff 21 (by kernel_rfl)).symm.trans h0_) (by decide)⟩
  refine tO ?_ ?_
  ·rintro b a w' ⟨jg,jh,ji,jK,ha,gP,gQ,gX,lX,lY,lZ,qG⟩ hb_ hon hoff;refine ⟨_,rfl,fun K hK=>?_⟩;have e24 : a.tmps[24]? = some (.int .i64 (rd (ah aj a1) 0)):=by rw [ha];exact tT (e:=(9,24,.int .i64 (rd (ah aj a1) 0))) 6 rfl rfl (hon 9 (by kernel_rfl)) rfl
   have e27 : a.tmps[27]? = some (.int .i64 (rd (ah aj a1) 2)):=by rw [ha];exact tT (e:=(12,27,.int .i64 (rd (ah aj a1) 2))) 8 rfl rfl (hon 12 (by kernel_rfl)) rfl
   replace ha:=AM ha;have iF:=AM gP;have bX:=AM gQ;have HB:=AM gX;refine Kd.Px (Kd.int .i64) _ 3 ?hg (N:=28) ?hd (xs:=([rd (ah aj a1) 0,rd (ah aj a1) 2] : List Int)) (inner:=[.int .i64 (rd (ah aj a1) 0),.int .i64 (rd (ah aj a1) 2)]) (ok:=fun _=>True) (okp:=fun _=>True) ?hr ?hp (fun _ hk=>hk) trivial (Below.refl _ _) (Nat.le_refl _) (by simp) ?_;(case hd=>rfl);(case hg=>rfl);(case hr=>exact GS);(case hp=>exact (aT.one (show Kd.M (Kd.int .i64) _ _ _ (rd (ah aj a1) 0) [.int .i64 (rd (ah aj a1) 0)] from rfl) (aT.one (show Kd.M (Kd.int .i64) _ _ _ (rd (ah aj a1) 2) [.int .i64 (rd (ah aj a1) 2)] from rfl) (aT.none _ _))));intro jh w13 lU hb hg_ eY;clear hg_ eY
   (first|rw [← akz.out] at lU|(simp only [Int.reduceToNat] at lU;rw [← akz.out] at lU));have n0_:=AM (Kd.PZ (KN iF) (Kd.oh lU) hb);have n1_:=AM (Kd.bD (Kd.Cx (M:=fun k_=>(w.heap.size ≤ k_)) lU (BZ (AGE nu)) (fun k_ h_=>h_)) (BZ (AGE nu)));have n2_:=AM (eU (g:=gU) (o:=.cells #[.int .i64 aC,.slice aX av.length aY,.slice (some uh) aj.length aW,.slice bn ay.length aZ] 43 (0,0)) (BW bX) hb);have n3_:=HG nu hb;have ZL:=fun (h0_ : b 6 = true) (h1_ : b 21 = false)=>(show Kd.R (Kd.int .i64) 3 w13 w.heap.size (fun k_=>(w.heap.size ≤ k_)) jg zF from by first|exact (Kd.vP (by (with_reducible repeat (first|apply Kd.dh|apply Kd.dn|apply Kd.bF));exact (lX h0_ h1_)) (Kd.oh lU) hb)|exact Kd.aM (Kd.vP (by (with_reducible repeat (first|apply Kd.dh|apply Kd.dn|apply Kd.bF));exact (lX h0_ h1_)) (Kd.oh lU) hb) (fun _ h_=>by first|trivial|exact h_|exact h_.1))
   have ZK:=fun (h0_ : b 20 = true) (h1_ : b 21 = false)=>(show Kd.R (Kd.int .i64) 3 w13 w.heap.size (fun k_=>(w.heap.size ≤ k_)) ji CZ from by first|exact (Kd.vP (by (with_reducible repeat (first|apply Kd.dh|apply Kd.dn|apply Kd.bF));exact (lZ h0_ h1_)) (Kd.oh lU) hb)|exact Kd.aM (Kd.vP (by (with_reducible repeat (first|apply Kd.dh|apply Kd.dn|apply Kd.bF));exact (lZ h0_ h1_)) (Kd.oh lU) hb) (fun _ h_=>by first|trivial|exact h_|exact h_.1))
   clear iF;clear bX;clear HB;have iF:=n0_;have NY:=n1_;have bX:=n2_;have HB:=n3_;clear n0_ n1_ n2_ n3_;clear hb lU;refine hK.out _ _ ⟨jg,jh,ji,jK,(by rw [ha.out];exact tQ 9 hb_ rfl rfl rfl),(by (with_reducible repeat (first|apply Kd.Fh|apply Kd.Fj|apply Kd.xu));exact Kd.Aj iF.out (fun _ hk=>by first|exact ⟨hk.1.1,⟨hk.2,hk.1.2⟩⟩|exact hk.1|exact hk)),(BW bX),(AGE nu),ZL,fun _ _=>(by (with_reducible repeat (first|apply Kd.dh|apply Kd.dn|apply Kd.bF));exact Kd.aM NY.out (fun _ hk=>hk.1)),ZK,fun h0_=>absurd ((hoff 21 (by kernel_rfl)).symm.trans h0_) (by decide)⟩
  refine tO ?_ ?_
  ·rintro b a w' ⟨jg,jh,ji,jK,ha,gP,gQ,gX,lX,lY,lZ,qG⟩ hb_ hon hoff;refine ⟨_,rfl,fun K hK=>?_⟩;have e29 : a.tmps[29]? = some (.slice (some fT) (ah aj a1).length NG):=by rw [ha];exact (Dq rfl).trans rfl
   replace ha:=AM ha;have iF:=AM gP;have bX:=AM gQ;have HB:=AM gX;have awV : w'.cell? ⟨fT.block,fT.off + 1,none⟩ = some (.int .i64 (rd (ah aj a1) 1)):=(LC Qd);refine xA (w1:=w') (v:=.pointer (some (fT.add 1))) (by rfl) rfl ?_ ?_
   ·exact PG
   refine hK.out _ _ ⟨jg,jh,ji,jK,(by rw [ha.out];exact tQ 10 hb_ rfl rfl rfl),gP,gQ,gX,lX,lY,fun h0_ _=>absurd ((hoff 20 (by kernel_rfl)).symm.trans h0_) (by decide),fun h0_=>absurd ((hoff 21 (by kernel_rfl)).symm.trans h0_) (by decide)⟩
  refine tO ?_ ?_
  ·rintro b a w' ⟨jg,jh,ji,jK,ha,gP,gQ,gX,lX,lY,lZ,qG⟩ hb_ hon hoff;refine ⟨_,rfl,fun K hK=>?_⟩;have e30 : a.tmps[30]? = some (.pointer (some (fT.add 1))):=by rw [ha];exact tT (e:=(15,30,.pointer (some (fT.add 1)))) 10 rfl rfl (hon 15 (by kernel_rfl)) rfl
   replace ha:=AM ha;have iF:=AM gP;have bX:=AM gQ;have HB:=AM gX;have awV : w'.cell? ⟨fT.block,fT.off + 1,none⟩ = some (.int .i64 (rd (ah aj a1) 1)):=(LC Qd);refine xA (w1:=w') (v:=.int .i64 (rd (ah aj a1) 1)) (by rfl) rfl ?_ ?_
   ·exact PG
   refine hK.out _ _ ⟨jg,jh,ji,jK,(by rw [ha.out];exact tQ 11 hb_ rfl rfl rfl),gP,gQ,gX,lX,lY,fun h0_ _=>absurd ((hoff 20 (by kernel_rfl)).symm.trans h0_) (by decide),fun h0_=>absurd ((hoff 21 (by kernel_rfl)).symm.trans h0_) (by decide)⟩
  refine tO ?_ ?_
  ·rintro b a w' ⟨jg,jh,ji,jK,ha,gP,gQ,gX,lX,lY,lZ,qG⟩ hb_ hon hoff;refine ⟨_,rfl,fun K hK=>?_⟩;have e32 : a.tmps[32]? = some (.slice (some fT) (ah aj a1).length NG):=by rw [ha];exact (Dq rfl).trans rfl
   replace ha:=AM ha;have iF:=AM gP;have bX:=AM gQ;have HB:=AM gX;have awW : w'.cell? ⟨fT.block,fT.off + 2,none⟩ = some (.int .i64 (rd (ah aj a1) 2)):=(LC Qe);refine xA (w1:=w') (v:=.pointer (some (fT.add 2))) (by rfl) rfl ?_ ?_
   ·exact PG
   refine hK.out _ _ ⟨jg,jh,ji,jK,(by rw [ha.out];exact tQ 12 hb_ rfl rfl rfl),gP,gQ,gX,lX,lY,fun h0_ _=>absurd ((hoff 20 (by kernel_rfl)).symm.trans h0_) (by decide),fun h0_=>absurd ((hoff 21 (by kernel_rfl)).symm.trans h0_) (by decide)⟩
  refine tO ?_ ?_
  ·rintro b a w' ⟨jg,jh,ji,jK,ha,gP,gQ,gX,lX,lY,lZ,qG⟩ hb_ hon hoff;refine ⟨_,rfl,fun K hK=>?_⟩;have e33 : a.tmps[33]? = some (.pointer (some (fT.add 2))):=by rw [ha];exact tT (e:=(18,33,.pointer (some (fT.add 2)))) 12 rfl rfl (hon 18 (by kernel_rfl)) rfl
   replace ha:=AM ha;have iF:=AM gP;have bX:=AM gQ;have HB:=AM gX;have awW : w'.cell? ⟨fT.block,fT.off + 2,none⟩ = some (.int .i64 (rd (ah aj a1) 2)):=(LC Qe);refine xA (w1:=w') (v:=.int .i64 (rd (ah aj a1) 2)) (by rfl) rfl ?_ ?_
   ·exact PG
   refine hK.out _ _ ⟨jg,jh,ji,jK,(by rw [ha.out];exact tQ 13 hb_ rfl rfl rfl),gP,gQ,gX,lX,lY,fun h0_ _=>absurd ((hoff 20 (by kernel_rfl)).symm.trans h0_) (by decide),fun h0_=>absurd ((hoff 21 (by kernel_rfl)).symm.trans h0_) (by decide)⟩
  refine tO ?_ ?_
  ·rintro b a w' ⟨jg,jh,ji,jK,ha,gP,gQ,gX,lX,lY,lZ,qG⟩ hb_ hon hoff;refine ⟨_,rfl,fun K hK=>?_⟩;have e31 : a.tmps[31]? = some (.int .i64 (rd (ah aj a1) 1)):=by rw [ha];exact tT (e:=(16,31,.int .i64 (rd (ah aj a1) 1))) 11 rfl rfl (hon 16 (by kernel_rfl)) rfl
   have e34 : a.tmps[34]? = some (.int .i64 (rd (ah aj a1) 2)):=by rw [ha];exact tT (e:=(19,34,.int .i64 (rd (ah aj a1) 2))) 13 rfl rfl (hon 19 (by kernel_rfl)) rfl
   replace ha:=AM ha;have iF:=AM gP;have bX:=AM gQ;have HB:=AM gX;refine Kd.Px (Kd.int .i64) _ 3 ?hg (N:=35) ?hd (xs:=([rd (ah aj a1) 1,rd (ah aj a1) 2] : List Int)) (inner:=[.int .i64 (rd (ah aj a1) 1),.int .i64 (rd (ah aj a1) 2)]) (ok:=fun _=>True) (okp:=fun _=>True) ?hr ?hp (fun _ hk=>hk) trivial (Below.refl _ _) (Nat.le_refl _) (by simp) ?_;(case hd=>rfl);(case hg=>rfl);(case hr=>exact GS);(case hp=>exact (aT.one (show Kd.M (Kd.int .i64) _ _ _ (rd (ah aj a1) 1) [.int .i64 (rd (ah aj a1) 1)] from rfl) (aT.one (show Kd.M (Kd.int .i64) _ _ _ (rd (ah aj a1) 2) [.int .i64 (rd (ah aj a1) 2)] from rfl) (aT.none _ _))));intro ji w13 lU hb hg_ eY;clear hg_ eY
   (first|rw [← akA.out] at lU|(simp only [Int.reduceToNat] at lU;rw [← akA.out] at lU));have n0_:=AM (Kd.PZ (KN iF) (Kd.oh lU) hb);have n1_:=AM (Kd.bD (Kd.Cx (M:=fun k_=>(w.heap.size ≤ k_)) lU (BZ (AGE nu)) (fun k_ h_=>h_)) (BZ (AGE nu)));have n2_:=AM (eU (g:=gU) (o:=.cells #[.int .i64 aC,.slice aX av.length aY,.slice (some uh) aj.length aW,.slice bn ay.length aZ] 43 (0,0)) (BW bX) hb);have n3_:=HG nu hb;have ZL:=fun (h0_ : b 6 = true) (h1_ : b 21 = false)=>(show Kd.R (Kd.int .i64) 3 w13 w.heap.size (fun k_=>(w.heap.size ≤ k_)) jg zF from by first|exact (Kd.vP (by (with_reducible repeat (first|apply Kd.dh|apply Kd.dn|apply Kd.bF));exact (lX h0_ h1_)) (Kd.oh lU) hb)|exact Kd.aM (Kd.vP (by (with_reducible repeat (first|apply Kd.dh|apply Kd.dn|apply Kd.bF));exact (lX h0_ h1_)) (Kd.oh lU) hb) (fun _ h_=>by first|trivial|exact h_|exact h_.1))
   have ZJ:=fun (h0_ : b 13 = true) (h1_ : b 21 = false)=>(show Kd.R (Kd.int .i64) 3 w13 w.heap.size (fun k_=>(w.heap.size ≤ k_)) jh Bc from by first|exact (Kd.vP (by (with_reducible repeat (first|apply Kd.dh|apply Kd.dn|apply Kd.bF));exact (lY h0_ h1_)) (Kd.oh lU) hb)|exact Kd.aM (Kd.vP (by (with_reducible repeat (first|apply Kd.dh|apply Kd.dn|apply Kd.bF));exact (lY h0_ h1_)) (Kd.oh lU) hb) (fun _ h_=>by first|trivial|exact h_|exact h_.1))
   clear iF;clear bX;clear HB;have iF:=n0_;have NZ:=n1_;have bX:=n2_;have HB:=n3_;clear n0_ n1_ n2_ n3_;clear hb lU;refine hK.out _ _ ⟨jg,jh,ji,jK,(by rw [ha.out];exact tQ 14 hb_ rfl rfl rfl),(by (with_reducible repeat (first|apply Kd.Fh|apply Kd.Fj|apply Kd.xu));exact Kd.Aj iF.out (fun _ hk=>by first|exact ⟨hk.1.1,⟨hk.2,hk.1.2⟩⟩|exact hk.1|exact hk)),(BW bX),(AGE nu),ZL,ZJ,fun _ _=>(by (with_reducible repeat (first|apply Kd.dh|apply Kd.dn|apply Kd.bF));exact Kd.aM NZ.out (fun _ hk=>hk.1)),fun h0_=>absurd ((hoff 21 (by kernel_rfl)).symm.trans h0_) (by decide)⟩
  refine tO ?_ ?_
  ·rintro b a w' ⟨jg,jh,ji,jK,ha,gP,gQ,gX,lX,lY,lZ,qG⟩ hb_ hon hoff;refine ⟨_,rfl,fun K hK=>?_⟩;have e21 : a.tmps[21]? = some (jg):=by rw [ha];exact tT (e:=(6,21,jg)) 4 rfl rfl (hon 6 (by kernel_rfl)) rfl
   have e28 : a.tmps[28]? = some (jh):=by rw [ha];exact tT (e:=(13,28,jh)) 9 rfl rfl (hon 13 (by kernel_rfl)) rfl
   have e35 : a.tmps[35]? = some (ji):=by rw [ha];exact tT (e:=(20,35,ji)) 14 rfl rfl (hon 20 (by kernel_rfl)) rfl
   replace ha:=AM ha;have iF:=AM gP;have bX:=AM gQ;have HB:=AM gX;have NW:=AM (lX (hon 6 (by kernel_rfl)) hb_);have NY:=AM (lY (hon 13 (by kernel_rfl)) hb_);have NZ:=AM (lZ (hon 20 (by kernel_rfl)) hb_);obtain ⟨J9,Gx,xK⟩:=Kd.bG NW.out
   (first|subst xK|(injection xK with f1_ f2_ f3_;have f4_:=f1_.symm;have f5_:=f3_.symm;clear f1_ f2_ f3_;subst f4_;subst f5_));obtain ⟨Ba,zD,yM⟩:=Kd.bG NY.out
   (first|subst yM|(injection yM with f1_ f2_ f3_;have f4_:=f1_.symm;have f5_:=f3_.symm;clear f1_ f2_ f3_;subst f4_;subst f5_));obtain ⟨wF,vB,Ka⟩:=Kd.bG NZ.out
   (first|subst Ka|(injection Ka with f1_ f2_ f3_;have f4_:=f1_.symm;have f5_:=f3_.symm;clear f1_ f2_ f3_;subst f4_;subst f5_));refine Kd.aoh (Kd.slice 3 (Kd.int .i64)) _ 24 ?hg (N':=36) ?hd (xs:=([zF,Bc,CZ] : List (List Int))) (inner:=[.slice J9 zF.length Gx,.slice Ba Bc.length zD,.slice wF CZ.length vB]) (ok:=(fun k_=>(w.heap.size ≤ k_)∧some k_≠(Bd : Value).ownBlock∧k_≠gU)) (okp:=(fun k_=>(w.heap.size ≤ k_)∧some k_≠(Bd : Value).ownBlock∧k_≠gU)) ?hr ?hp (fun _ hk=>hk) ((show ∀ k_,w'.heap.size ≤ k_→(fun k_=>(w.heap.size ≤ k_)∧some k_≠(Bd : Value).ownBlock∧k_≠gU) k_ from fun k_ hk=>⟨(Nat.le_trans (BZ (AGE nu)) hk),Kd.fresh' (Kd.XQ (KN iF)) k_ hk,Kd.xw (g:=gU) (o:=.cells #[.int .i64 aC,.slice aX av.length aY,.slice (some uh) aj.length aW,.slice bn ay.length aZ] 43 (0,0)) (BW bX) k_ hk⟩) _ (Nat.le_refl _)) (Below.refl _ _) (Nat.le_refl _) (by simp) ?_;(case hd=>rfl);(case hg=>rfl);(case hr=>exact GS);(case hp=>exact (aT.one (show Kd.FK (Kd.slice 3 (Kd.int .i64)) _ _ zF [.slice J9 zF.length Gx] from (Kd.Vf (Kd.aA (Kd.aM (ok':=(fun k_=>(w.heap.size ≤ k_)∧some k_≠(Bd : Value).ownBlock∧k_≠gU)) (Kd.nM (Kd.qY (NW.out) (Kd.MQ iF.out) (by decide)) bX.out (by decide)) (fun k_ hk=>by first|exact ⟨hk.1.1.1,⟨hk.1.2,hk.2⟩⟩|exact ⟨hk.1.1,⟨hk.1.2,hk.2⟩⟩))).2.1 (Kd.R_F (Kd.aM (ok':=(fun k_=>(w.heap.size ≤ k_)∧some k_≠(Bd : Value).ownBlock∧k_≠gU)) (Kd.nM (Kd.qY (NW.out) (Kd.MQ iF.out) (by decide)) bX.out (by decide)) (fun k_ hk=>by first|exact ⟨hk.1.1.1,⟨hk.1.2,hk.2⟩⟩|exact ⟨hk.1.1,⟨hk.1.2,hk.2⟩⟩))))) (aT.one (show Kd.FK (Kd.slice 3 (Kd.int .i64)) _ _ Bc [.slice Ba Bc.length zD] from (Kd.Vf (Kd.aA (Kd.aM (ok':=(fun k_=>(w.heap.size ≤ k_)∧some k_≠(Bd : Value).ownBlock∧k_≠gU)) (Kd.nM (Kd.qY (NY.out) (Kd.MQ iF.out) (by decide)) bX.out (by decide)) (fun k_ hk=>by first|exact ⟨hk.1.1.1,⟨hk.1.2,hk.2⟩⟩|exact ⟨hk.1.1,⟨hk.1.2,hk.2⟩⟩))).2.1 (Kd.R_F (Kd.aM (ok':=(fun k_=>(w.heap.size ≤ k_)∧some k_≠(Bd : Value).ownBlock∧k_≠gU)) (Kd.nM (Kd.qY (NY.out) (Kd.MQ iF.out) (by decide)) bX.out (by decide)) (fun k_ hk=>by first|exact ⟨hk.1.1.1,⟨hk.1.2,hk.2⟩⟩|exact ⟨hk.1.1,⟨hk.1.2,hk.2⟩⟩))))) (aT.one (show Kd.FK (Kd.slice 3 (Kd.int .i64)) _ _ CZ [.slice wF CZ.length vB] from (Kd.Vf (Kd.aA (Kd.aM (ok':=(fun k_=>(w.heap.size ≤ k_)∧some k_≠(Bd : Value).ownBlock∧k_≠gU)) (Kd.nM (Kd.qY (NZ.out) (Kd.MQ iF.out) (by decide)) bX.out (by decide)) (fun k_ hk=>by first|exact ⟨hk.1.1.1,⟨hk.1.2,hk.2⟩⟩|exact ⟨hk.1.1,⟨hk.1.2,hk.2⟩⟩))).2.1 (Kd.R_F (Kd.aM (ok':=(fun k_=>(w.heap.size ≤ k_)∧some k_≠(Bd : Value).ownBlock∧k_≠gU)) (Kd.nM (Kd.qY (NZ.out) (Kd.MQ iF.out) (by decide)) bX.out (by decide)) (fun k_ hk=>by first|exact ⟨hk.1.1.1,⟨hk.1.2,hk.2⟩⟩|exact ⟨hk.1.1,⟨hk.1.2,hk.2⟩⟩))))) (aT.none _ _)))));intro jK w23 OG hb hg_ eY;clear hg_ eY
   (first|rw [← akB.out] at OG|(simp only [Int.reduceToNat] at OG;rw [← akB.out] at OG));replace iF:=AM (Kd.PZ (KN iF) (Kd.arF OG) hb);have F6:=AM (Kd.Vx OG (BZ (AGE nu)));replace bX:=AM (eU (g:=gU) (o:=.cells #[.int .i64 aC,.slice aX av.length aY,.slice (some uh) aj.length aW,.slice bn ay.length aZ] 43 (0,0)) (BW bX) hb);replace HB:=HG nu hb;clear NW NY NZ;clear hb OG;obtain ⟨Tt,Tv,C8⟩:=Kd.Ij F6.out
   (first|subst C8|(injection C8 with f1_ f2_ f3_;have f4_:=f1_.symm;have f5_:=f3_.symm;clear f1_ f2_ f3_;subst f4_;subst f5_));refine hK.out _ _ ⟨.slice J9 zF.length Gx,.slice Ba Bc.length zD,.slice wF CZ.length vB,.slice Tt dX.length Tv,(by rw [ha.out];exact tQ 15 hb_ rfl rfl rfl),(by (with_reducible repeat (first|apply Kd.Fh|apply Kd.Fj|apply Kd.xu));exact Kd.Aj iF.out (fun _ hk=>by first|exact hk.1|exact hk|exact ⟨hk.1.1,hk.1.2.2.2.2⟩|exact ⟨hk.1.1,hk.1.2⟩)),(BW bX),(AGE nu),fun _ h1_=>absurd ((Ik b 21).symm.trans h1_) (by decide),fun _ h1_=>absurd ((Ik b 21).symm.trans h1_) (by decide),fun _ h1_=>absurd ((Ik b 21).symm.trans h1_) (by decide),fun _=>(KN F6)⟩
  refine tO ?_ ?_
  ·rintro b a w' ⟨jg,jh,ji,jK,ha,gP,gQ,gX,lX,lY,lZ,qG⟩ hb_ hon hoff;refine ⟨_,rfl,fun K hK=>?_⟩;have e36 : a.tmps[36]? = some (jK):=by rw [ha];exact tT (e:=(21,36,jK)) 15 rfl rfl (hon 21 (by kernel_rfl)) rfl
   replace ha:=AM ha;have iF:=AM gP;have bX:=AM gQ;have HB:=AM gX;have F6:=AM (qG (hon 21 (by kernel_rfl)));obtain ⟨arG,arH,eo_⟩:=Kd.Ij F6.out;subst eo_;refine xA (w1:=w') (v:=.int .i64 (dX.length : Int)) (by rfl) rfl ?_ ?_
   ·exact PG
   refine hK.out _ _ ⟨jg,jh,ji,.slice arG dX.length arH,(by rw [ha.out];exact tQ 16 hb_ rfl rfl rfl),gP,gQ,gX,fun _ h1_=>absurd ((hon 21 (by kernel_rfl)).symm.trans h1_) (by decide),fun _ h1_=>absurd ((hon 21 (by kernel_rfl)).symm.trans h1_) (by decide),fun _ h1_=>absurd ((hon 21 (by kernel_rfl)).symm.trans h1_) (by decide),qG⟩
  exact aoq
 rintro b a w25 hall ⟨jg,jh,ji,jK,ha,gP,gQ,gX,lX,lY,lZ,qG⟩;clear bX HB iF;have al8:=hall 1 (by kernel_rfl);have al9:=hall 2 (by kernel_rfl);have ama:=hall 4 (by kernel_rfl);have amb:=hall 5 (by kernel_rfl);have amc:=hall 6 (by kernel_rfl);have amd:=hall 8 (by kernel_rfl);have ame:=hall 9 (by kernel_rfl);have akC:=hall 11 (by kernel_rfl);have akD:=hall 12 (by kernel_rfl);have akE:=hall 13 (by kernel_rfl);have akF:=hall 15 (by kernel_rfl);have akG:=hall 16 (by kernel_rfl);have akH:=hall 18 (by kernel_rfl);have akI:=hall 19 (by kernel_rfl);have akJ:=hall 20 (by kernel_rfl);have acd:=hall 21 (by kernel_rfl);have akK:=hall 22 (by kernel_rfl);subst ha;simp only [qJ,al8,al9,ama,amb,amc,amd,ame,akC,akD,akE,akF,akG,akH,akI,akJ,acd,akK,if_true,Act.put,List.setIfInBounds_toArray,List.set_cons_zero,List.set_cons_succ];have iF:=AM gP;clear gP;have bX:=AM gQ;clear gQ;have HB:=AM gX;clear gX;clear lX;clear lY;clear lZ;have F6:=AM (qG acd);clear qG;clear hall al8 al9 ama amb amc amd ame akC akD akE akF akG akH akI akJ acd akK;obtain ⟨Gy,yN,wG⟩:=Kd.Ij F6.out
 (first|subst wG|(injection wG with f1_ f2_ f3_;have f4_:=f1_.symm;have f5_:=f3_.symm;clear f1_ f2_ f3_;subst f4_;subst f5_));try go_wp2
 go_loopg [6,38] k (fun kq v6 v38 w'=>∃ (iO : List (List Int)) (iX : Int),v38 = .int .i64 iX∧ak (dV.l0 kq iO dX (dX.length : Int) iX aC av aj ay = some r)∧ak (kq ≤ k)∧ak (Kd.N (Kd.slice 3 (Kd.int .i64)) 24 w' w.heap.size (fun k_=>(w.heap.size ≤ k_)∧some k_≠((.slice Gy dX.length yN) : Value).ownBlock∧k_≠gU) v6 iO)∧ak (Kd.N (Kd.slice 3 (Kd.int .i64)) 24 w' w.heap.size (fun k_=>(w.heap.size ≤ k_)∧some k_≠(v6 : Value).ownBlock∧k_≠gU) (.slice Gy dX.length yN) dX)∧ak (w'.heap[gU]? = some (.cells #[.int .i64 aC,(.slice aX av.length aY),(.slice (some uh) aj.length aW),(.slice bn ay.length aZ)] 43 (0,0)))∧ak (Below w.heap.size w w'))
 case atStart=>exact ⟨(J8),(0),RF,H',⟨Nat.le_refl _⟩,⟨apv iF.out ab5.out F6.out (fun _ h_=>h_.2.1) (fun _ h_ z_=>⟨h_.1,z_,h_.2⟩)⟩,⟨KN F6⟩,⟨by (with_reducible repeat (first|refine bZ ?_ _|refine bL ?_|refine bV ?_ _));exact bX.out⟩,⟨AGE nu⟩⟩
 case round =>
  clear H';try clear p2
  try clear c3
  try clear iQ
  try clear p3
  try clear q3
  try clear hx3
  try clear qi3
  try clear c4
  try clear iR
  try clear p4
  try clear q4
  try clear hx4
  try clear qi4
  try clear c5
  try clear ko
  try clear Gw
  try clear c6
  try clear iA
  try clear uG
  try clear p6
  try clear c7
  try clear kS
  try clear Bb
  try clear Ro
  try clear Rp
  try clear Rq
  try clear VZ
  try clear V3
  try clear Rs
  try clear Rt
  try clear V4
  try clear ZI
  try clear Ib
  try clear Ic
  try clear Ie
  try clear Ig
  try clear Ih
  try clear Ii
  try clear XB
  try clear XD
  try clear XF
  try clear XH
  try clear XJ
  try clear XL
  try clear XO
  try clear XC
  try clear XE
  try clear XG
  try clear XI
  try clear XK
  try clear XM
  try clear XP
  obtain ⟨iO,iX,rfl,HA,HK1,bQ,qL,bX,HB⟩:=hrel;cases gk with
  | zero=>exact absurd HA.out (by simp [dV.l0])
  | succ k1 =>
   have H:=HA.out;clear HA;simp only [dV.l0] at H;by_cases c27 : iX < (dX.length : Int)
   ·rw [if_pos c27] at H;have N7:=DT c27;clear c27;replace H:=IC H;obtain ⟨c28,H⟩:=H;have Jt:=DT c28;clear c28;replace H:=IC H;obtain ⟨c29,H⟩:=H;have atf:=DT c29;clear c29;replace H:=IC H;obtain ⟨c30,H⟩:=H;have atg:=DT c30;have aCt : decide (0 < (ah dX iX).length) = true:=DT (by omega);clear c30;replace H:=IC H;obtain ⟨c31,H⟩:=H;have WB:=DT c31;have ath : decide (1 < (ah dX iX).length) = true:=DT (by omega);clear c31;replace H:=EA H;obtain ⟨aeb,A32,H⟩:=H;by_cases c33 : aeb = true
    ·subst c33;replace H:=IP H;replace H:=IC H;obtain ⟨c34,H⟩:=H;have ati:=AM c34;clear c34;obtain ⟨amf,ace⟩ : ∃ y_ : List (List Int),y_ = (iO ++ [ah dX iX]):=⟨_,rfl⟩;replace H : (dV.l0 k1 amf dX (dX.length : Int) (wrap64 (iX + 1)) aC av aj ay) = some r:=HY H ace;have atj:=AM ace;clear ace;have H':=AM H;clear H;have Er : 0 ≤ (iX : Int):=OD AS;have Es : iX < (dX.length : Int):=OD AS;obtain ⟨N8,arI,ajz,aec,ZM,Qf,Qg⟩:=gT (Kd.Cr qL.out).2.2 iX Er Es;cases aec;obtain ⟨atl,aa5,aa6,Ru⟩:=Kd.RZ qL.out [] iX Er (by first|exact Es|exact OD AS|(have e_:=(Kd.Cr qL.out).1;omega));obtain ⟨apw,apx,rfl,Il,Im⟩:=Kd.Pp aa6;have Dv:=Ru 0 _ rfl;rw [Nat.add_zero,show ((Kd.slice 3 (Kd.int .i64))).sz = 1 from rfl,Nat.mul_one] at Dv;replace Dv:=Option.some.inj (Dv.symm.trans ZM);injection Dv with xL Et xM
     rw [xL] at Im;rw [xM] at Il;have vQ:=AM (show Kd.V (Kd.int .i64) 3 _ w.heap.size _ _ (ah dX iX) from Kd.sW Il Im);clear xL Et xM Im Il;clear Ru aa5;have vR:=AM Qg;have apy:=AM Qf;clear Qg Qf;replace Er:=ET Er;replace Es:=ET Es;try go_wp2
     replace bQ:=AM (Kd.xu bQ.out);replace qL:=AM (Kd.xu qL.out);replace vQ:=AM (Kd.fU vQ.out);replace bX:=AM (bL bX.out);replace vR:=AM (Kd.sM vR.out);replace HB:=AM (fA HB.out);have Ke : 0 ≤ (0 : Int):=(by omega);have Kg : 0 < ((ah dX iX).length : Int):=OD AS;obtain ⟨CB,aed,Dw⟩:=Kd.aN (CX vR) 0 Ke Kg;cases aed;have atm : (0 < (ah dX iX).length) = True:=ET (by omega)
     (try rw [show ((0 : Int)).toNat = 0 from rfl] at Dw)
     (try rw [Addr.add_zero'] at Dw);replace Ke:=ET Ke;replace Kg:=ET Kg;have Kh : 0 ≤ (1 : Int):=(by omega);have Ki : 1 < ((ah dX iX).length : Int):=OD AS;obtain ⟨acf,aee,Dx⟩:=Kd.aN (CX vR) 1 Kh Ki;obtain rfl : CB = acf:=(by injection aee)
     (try simp only [show (1 : Int).toNat = 1 from rfl,Nat.reduceMul,Nat.reduceEqDiff,Go.Addr.add,↓reduceIte] at Dx);have atn : (1 < (ah dX iX).length) = True:=ET (by omega)
     (try rw [show ((1 : Int)).toNat = 1 from rfl] at Dx);replace Kh:=ET Kh;replace Ki:=ET Ki;refine PSt (n:=8) (S:=fun w'=>w'.cell? ⟨gU,0,none⟩ = some (.int .i64 aC)∧w'.cell? ⟨gU,1,none⟩ = some (.slice aX av.length aY)∧w'.cell? ⟨gU,2,none⟩ = some (.slice (some uh) aj.length aW)∧w'.cell? ⟨gU,3,none⟩ = some (.slice bn ay.length aZ)∧w'.cell? CB = some (.int .i64 (rd (ah dX iX) 0))∧w'.cell? ⟨CB.block,CB.off + 1,none⟩ = some (.int .i64 (rd (ah dX iX) 1))) (ds:=[]) ⟨(BC bX.out 0).trans rfl,(BC bX.out 1).trans rfl,(BC bX.out 2).trans rfl,(BC bX.out 3).trans rfl,Dw,Dx⟩ (fun hHeld=>?_);refine lK dV.XA dV.WA (fun HT_ HW_=>?_);generalize wr.drew = w35 at bQ qL vQ bX vR HB Dw Dx hHeld ⊢;refine PA 1 43 HT_ ?_;refine PA 2 44 HT_ ?_;refine PA 4 46 HT_ ?_;refine PA 5 47 HT_ ?_;refine PB 0 42 HT_ HW_ hHeld ?_;refine PB 3 45 HT_ HW_ hHeld ?_;refine PB 6 48 HT_ HW_ hHeld ?_;refine PC 7 49 HT_ (fun K hK=>?_);refine iL Try.func62 (by kernel_rfl) rfl #[.agg #[.int .i64 aC,.slice aX av.length aY,.slice (some uh) aj.length aW,.slice bn ay.length aZ],.int .i64 (rd (ah dX iX) 0),.int .i64 (rd (ah dX iX) 1)] (by rfl) rfl rfl TA ?_;with_reducible refine (yV.calls aC _ _ av _ _ aj _ _ ay (rd (ah dX iX) 0) (rd (ah dX iX) 1) true _ ?aU ?aV ?eu ?eB ?lC ?mQ A32.out).mono ?_
     (case aU=>exact CW (Kd.aQ eZ.out HB.out))
     (case aV=>exact oK.out)
     (case eu=>exact CW (Kd.aQ mD.out HB.out))
     (case eB=>exact oo.out)
     (case lC=>exact CW (Kd.aQ nQ.out HB.out))
     (case mQ=>exact oL.out);rintro e w36 ⟨rfl,hb⟩;have r9:=LD hb hHeld.2.2.2.2.1;have sj:=LD hb hHeld.2.2.2.2.2;refine ⟨_,rfl,?_⟩;replace bQ:=AM (Kd.Dy (KN bQ) hb);replace qL:=AM (Kd.Dy (KN qL) hb);replace vQ:=VB vQ hb;replace bX:=AM (eU (g:=gU) (o:=.cells #[.int .i64 aC,.slice aX av.length aY,.slice (some uh) aj.length aW,.slice bn ay.length aZ] 43 (0,0)) (BW bX) hb);replace vR:=AM (Kd.aQ (CX vR) hb);replace HB:=HG nu hb;try clear hb
     refine hK.out _ _ ⟨(BC bX.out 0).trans rfl,(BC bX.out 1).trans rfl,(BC bX.out 2).trans rfl,(BC bX.out 3).trans rfl,r9,sj⟩ (fun hHeld=>?_);clear hK K;refine iy (a':=?_) ?_ ?_;rotate_left
     ·show Act.put _ (some 49) _ = _;simp only [Act.put,List.setIfInBounds_toArray,List.set_cons_zero,List.set_cons_succ,dJ,eX];rfl
     refine l8 (l5 HT_.out (by kernel_rfl)) ?_;try go_wp2_with (first|((with_reducible refine pW (b:=.append) (xs:=#[.tmp 50,.tmp 52]) rfl ?_);at_builtin;refine Kd.aoX (Kd.slice 3 (Kd.int .i64)) (w0:=w) w.heap.size rfl (.tmp 50) (.tmp 52) 41 24 (.slice none 0 0) 24 rfl Try.underlying41 ND rfl (by decide) (by omega) u6 iO (ah dX iX) [.slice (some CB) (ah dX iX).length ajz] (fun k_=>(w.heap.size ≤ k_)∧some k_≠(.slice (some N8) dX.length yN : Value).ownBlock∧k_≠gU) (fun k_=>((fun k_=>(w.heap.size ≤ k_)∧some k_≠(.slice (some N8) dX.length yN : Value).ownBlock∧k_≠gU)) k_∧some k_≠(u6 : Value).ownBlock) rfl rfl ?aP (fun _ hk=>hk) ?aF ?aO ?aB ?aS ?aL ?_;(case aP=>exact (Kd.Vf (Kd.gN (Kd.dz (ok':=(fun k_=>((fun k_=>(w.heap.size ≤ k_)∧some k_≠(.slice (some N8) dX.length yN : Value).ownBlock∧k_≠gU)) k_∧some k_≠(u6 : Value).ownBlock)) (vQ.out) (fun k_ hk=>⟨⟨hk.1.1,⟨hk.2,hk.1.2.2⟩⟩,hk.1.2.1⟩))).2.1 (Kd.V_F (Kd.dz (ok':=(fun k_=>((fun k_=>(w.heap.size ≤ k_)∧some k_≠(.slice (some N8) dX.length yN : Value).ownBlock∧k_≠gU)) k_∧some k_≠(u6 : Value).ownBlock)) (vQ.out) (fun k_ hk=>⟨⟨hk.1.1,⟨hk.2,hk.1.2.2⟩⟩,hk.1.2.1⟩)))));(case aB=>exact (AGE nu));(case aF=>exact (fun k_ hk=>⟨(Nat.le_trans (BZ (AGE nu)) hk),Kd.fresh' (Kd.XQ (KN qL)) k_ hk,Kd.xw (g:=gU) (o:=.cells #[.int .i64 aC,.slice aX av.length aY,.slice (some uh) aj.length aW,.slice bn ay.length aZ] 43 (0,0)) (BW bX) k_ hk⟩));(case aO=>exact (KN bQ));(case aS=>exact (BZ (AGE nu)));(case aL=>have:=ati.out;omega);intro aEJ w37 ho hb hg hat;rw [← atj.out] at ho;replace qL:=AM (Kd.aoY (ok:=(fun k_=>(w.heap.size ≤ k_)∧k_≠gU)) (by (with_reducible repeat (first|apply Kd.Fh|apply Kd.Fj|apply Kd.xu));exact Kd.Aj qL.out (fun _ hk=>⟨⟨hk.1,hk.2.2⟩,hk.2.1⟩)) hg hat);replace bX:=AM (H9 (g:=gU) (o:=.cells #[.int .i64 aC,.slice aX av.length aY,.slice (some uh) aj.length aW,.slice bn ay.length aZ] 43 (0,0)) (BW bX) hg (Kd.amg bQ.out bX.out (by decide)));replace vQ:=AM (Kd.P5 (ok:=(fun k_=>(w.heap.size ≤ k_)∧some k_≠(.slice (some N8) dX.length yN : Value).ownBlock∧k_≠gU)) (by (with_reducible repeat (first|apply Kd.jm|apply Kd.jo|apply Kd.fU));exact Kd.dz vQ.out (fun _ hk=>⟨⟨hk.1.1,⟨hk.2,hk.1.2.2⟩⟩,hk.1.2.1⟩)) hg hat);replace HB:=AM hb;have ato:=AM ho;clear bQ;clear ho hb hg hat))
     go_roundg k1
     case measure=>have:=HK1.out;omega
     case rel=>exact ⟨(amf),(wrap64 (iX + 1)),RF,H',⟨by have:=HK1.out;omega⟩,⟨KN ato⟩,⟨by (with_reducible repeat (first|apply Kd.Fh|apply Kd.Fj|apply Kd.xu));exact Kd.Aj qL.out (fun _ hk=>by first|exact ⟨hk.1.1,⟨hk.2,hk.1.2⟩⟩|exact hk.1|exact hk)⟩,⟨by (with_reducible repeat (first|refine bZ ?_ _|refine bL ?_|refine bV ?_ _));exact bX.out⟩,⟨AGE nu⟩⟩
    ·replace c33:=NF c33;subst c33;replace H:=IN H;have H':=AM H;clear H;have Er : 0 ≤ (iX : Int):=OD AS;have Es : iX < (dX.length : Int):=OD AS;obtain ⟨N8,arI,ajz,aec,ZM,Qf,Qg⟩:=gT (Kd.Cr qL.out).2.2 iX Er Es;cases aec;obtain ⟨atl,aa5,aa6,Ru⟩:=Kd.RZ qL.out [] iX Er (by first|exact Es|exact OD AS|(have e_:=(Kd.Cr qL.out).1;omega));obtain ⟨apw,apx,rfl,Il,Im⟩:=Kd.Pp aa6;have Dv:=Ru 0 _ rfl;rw [Nat.add_zero,show ((Kd.slice 3 (Kd.int .i64))).sz = 1 from rfl,Nat.mul_one] at Dv;replace Dv:=Option.some.inj (Dv.symm.trans ZM);injection Dv with xL Et xM
     rw [xL] at Im;rw [xM] at Il;have vQ:=AM (show Kd.V (Kd.int .i64) 3 _ w.heap.size _ _ (ah dX iX) from Kd.sW Il Im);clear xL Et xM Im Il;clear Ru aa5;have vR:=AM Qg;have apy:=AM Qf;clear Qg Qf;replace Er:=ET Er;replace Es:=ET Es;try go_wp2
     replace bQ:=AM (Kd.xu bQ.out);replace qL:=AM (Kd.xu qL.out);replace vQ:=AM (Kd.fU vQ.out);replace bX:=AM (bL bX.out);replace vR:=AM (Kd.sM vR.out);replace HB:=AM (fA HB.out);have Ke : 0 ≤ (0 : Int):=(by omega);have Kg : 0 < ((ah dX iX).length : Int):=OD AS;obtain ⟨CB,aed,Dw⟩:=Kd.aN (CX vR) 0 Ke Kg;cases aed;have atm : (0 < (ah dX iX).length) = True:=ET (by omega)
     (try rw [show ((0 : Int)).toNat = 0 from rfl] at Dw)
     (try rw [Addr.add_zero'] at Dw);replace Ke:=ET Ke;replace Kg:=ET Kg;have Kh : 0 ≤ (1 : Int):=(by omega);have Ki : 1 < ((ah dX iX).length : Int):=OD AS;obtain ⟨acf,aee,Dx⟩:=Kd.aN (CX vR) 1 Kh Ki;obtain rfl : CB = acf:=(by injection aee)
     (try simp only [show (1 : Int).toNat = 1 from rfl,Nat.reduceMul,Nat.reduceEqDiff,Go.Addr.add,↓reduceIte] at Dx);have atn : (1 < (ah dX iX).length) = True:=ET (by omega)
     (try rw [show ((1 : Int)).toNat = 1 from rfl] at Dx);replace Kh:=ET Kh;replace Ki:=ET Ki;refine PSt (n:=8) (S:=fun w'=>w'.cell? ⟨gU,0,none⟩ = some (.int .i64 aC)∧w'.cell? ⟨gU,1,none⟩ = some (.slice aX av.length aY)∧w'.cell? ⟨gU,2,none⟩ = some (.slice (some uh) aj.length aW)∧w'.cell? ⟨gU,3,none⟩ = some (.slice bn ay.length aZ)∧w'.cell? CB = some (.int .i64 (rd (ah dX iX) 0))∧w'.cell? ⟨CB.block,CB.off + 1,none⟩ = some (.int .i64 (rd (ah dX iX) 1))) (ds:=[]) ⟨(BC bX.out 0).trans rfl,(BC bX.out 1).trans rfl,(BC bX.out 2).trans rfl,(BC bX.out 3).trans rfl,Dw,Dx⟩ (fun hHeld=>?_);refine lK dV.XA dV.WA (fun HT_ HW_=>?_);generalize wr.drew = w38 at bQ qL vQ bX vR HB Dw Dx hHeld ⊢;refine PA 1 43 HT_ ?_;refine PA 2 44 HT_ ?_;refine PA 4 46 HT_ ?_;refine PA 5 47 HT_ ?_;refine PB 0 42 HT_ HW_ hHeld ?_;refine PB 3 45 HT_ HW_ hHeld ?_;refine PB 6 48 HT_ HW_ hHeld ?_;refine PC 7 49 HT_ (fun K hK=>?_);refine iL Try.func62 (by kernel_rfl) rfl #[.agg #[.int .i64 aC,.slice aX av.length aY,.slice (some uh) aj.length aW,.slice bn ay.length aZ],.int .i64 (rd (ah dX iX) 0),.int .i64 (rd (ah dX iX) 1)] (by rfl) rfl rfl TA ?_;with_reducible refine (yV.calls aC _ _ av _ _ aj _ _ ay (rd (ah dX iX) 0) (rd (ah dX iX) 1) false _ ?aU ?aV ?eu ?eB ?lC ?mQ A32.out).mono ?_
     (case aU=>exact CW (Kd.aQ eZ.out HB.out))
     (case aV=>exact oK.out)
     (case eu=>exact CW (Kd.aQ mD.out HB.out))
     (case eB=>exact oo.out)
     (case lC=>exact CW (Kd.aQ nQ.out HB.out))
     (case mQ=>exact oL.out);rintro e w39 ⟨rfl,hb⟩;have r9:=LD hb hHeld.2.2.2.2.1;have sj:=LD hb hHeld.2.2.2.2.2;refine ⟨_,rfl,?_⟩;replace bQ:=AM (Kd.Dy (KN bQ) hb);replace qL:=AM (Kd.Dy (KN qL) hb);replace vQ:=VB vQ hb;replace bX:=AM (eU (g:=gU) (o:=.cells #[.int .i64 aC,.slice aX av.length aY,.slice (some uh) aj.length aW,.slice bn ay.length aZ] 43 (0,0)) (BW bX) hb);replace vR:=AM (Kd.aQ (CX vR) hb);replace HB:=HG nu hb;try clear hb
     refine hK.out _ _ ⟨(BC bX.out 0).trans rfl,(BC bX.out 1).trans rfl,(BC bX.out 2).trans rfl,(BC bX.out 3).trans rfl,r9,sj⟩ (fun hHeld=>?_);clear hK K;refine iy (a':=?_) ?_ ?_;rotate_left
     ·show Act.put _ (some 49) _ = _;simp only [Act.put,List.setIfInBounds_toArray,List.set_cons_zero,List.set_cons_succ,dJ,eX];rfl
     refine l8 (l5 HT_.out (by kernel_rfl)) ?_;try go_wp2
     go_roundg k1
     case measure=>have:=HK1.out;omega
     case rel=>exact ⟨(iO),(wrap64 (iX + 1)),RF,H',⟨by have:=HK1.out;omega⟩,⟨KN bQ⟩,⟨KN qL⟩,⟨by (with_reducible repeat (first|refine bZ ?_ _|refine bL ?_|refine bV ?_ _));exact bX.out⟩,⟨AGE nu⟩⟩
   ·rw [if_neg c27] at H;have N7:=DF c27;clear c27;obtain rfl:=Option.some.inj H;go_wp2;go_ret;exact ⟨_,RE,by (with_reducible repeat (first|apply Kd.Fh|apply Kd.Fj|apply Kd.xu));exact Kd.Aj bQ.out (fun _ hk=>hk.1),AGE nu⟩

end Go.Proofs.Ythaonijhfeemfaa.dL
