-- Written by a program of this session (wip/tools/pp.sh) out of the translation; Lean checks it.
import Derived.Test.YthaonijhfeemfaaPFnWalksEndFullx8
namespace Go.Proofs.Ythaonijhfeemfaa.dL
open Go.RowKit Go.Proofs.YthaonijhfeemfaaOwn Go.Proofs.YthaonijhfeemfaaW.bU Go.Proofs.YthaonijhfeemfaaW.fB Go.Proofs.YthaonijhfeemfaaW.iw
attribute [local go_sem] nG nH nK nL nD nE nI nJ   -- for this text's walks alone
set_option linter.unusedVariables false
set_option maxHeartbeats 8000000
set_option maxRecDepth 100000
set_option linter.unusedSimpArgs false

def iD.l0 : Nat→Int→List Int→Int→Int→Option (Int)
 | 0,_,_,_,_=>none
 | k + 1,x1,x17,x18,x19=>if x19 < x18 then (if 0 ≤ x19 then (if x19 < (x17.length : Int) then (if (rd x17 x19) = x1 then (iD.l0 k x1 x17 x18 (wrap64 (x19 + 1))) else (some (rd x17 x19))) else (none)) else (none)) else (some (-1))
def iD.f (k : Nat) (aC : Int) (av : List Int) (aj : List (List Int)) (ay : List Int) (a1 : Int) (l2 : List Int) : Option (Int):=if 0 < (l2.length : Int) then (if 1 < (l2.length : Int) then ((kP.f k aj (rd l2 0) (rd l2 1)).bind fun wR=>(iD.l0 k a1 wR (wR.length : Int) 0)) else (none)) else (none)
theorem iD.bC : ∀ k,(∀ y0 y1 y2 y3,LeO (iD.l0 k y0 y1 y2 y3) (iD.l0 (k + 1) y0 y1 y2 y3))
 | 0=>fun _ _ _ _ r h=>by simp [iD.l0] at h
 | k + 1=>by
  have ih0:=iD.bC k
  ·intro y0 y1 y2 y3
   unfold iD.l0
   have m0:=@kP.mono
   exact MO
theorem iD.mono : ∀ a0 a1 a2 a3 a4 a5 k,LeO (iD.f k a0 a1 a2 a3 a4 a5) (iD.f (k + 1) a0 a1 a2 a3 a4 a5):=by
 intro a0 a1 a2 a3 a4 a5 k;have ih0:=iD.bC k;unfold iD.f
 have m0:=@kP.mono
 exact MO
def iD.T1 : Bool × List (List Nat × List Nat):=(true,[([],[]),([0],[0]),([],[]),([2],[2]),([3],[3]),([],[]),([5],[5]),([6],[6]),([1,4,7],[1,4,7]),([8],[8]),([],[])])
def iD.B1 : List Nat:=[0,1,0,4,12,0,32,96,255,511,0]
theorem iD.KI : fC .any (opsOf Try.f54 1) = iD.T1:=by kernel_rfl
theorem iD.Jz : lN iD.T1.2 iD.B1 = true:=by kernel_rfl
theorem iD.calls (k : Nat) (aC : Int) (aX : Option Addr) (aY : Nat) (av : List Int) (bA : Option Addr) (aW : Nat) (aj : List (List Int)) (bn : Option Addr) (aZ : Nat) (ay : List Int) (a1 : Int) (A2 : Option Addr) (c2 : Nat) (l2 : List Int) (r : Int) (w : World) (kC : Kd.C (Kd.int .i64) w aX av.length av) (kD : av.length ≤ aY) (kE : Kd.C (Kd.slice 3 (Kd.int .i64)) w bA aj.length aj) (kF : aj.length ≤ aW) (kG : Kd.C (Kd.int .i64) w bn ay.length ay) (kH : ay.length ≤ aZ) (hr2 : Kd.C (Kd.int .i64) w A2 l2.length l2) (hc2 : l2.length ≤ c2) (h : iD.f k aC av aj ay a1 l2 = some r) :
  Calls Try.prog 54 #[.agg #[.int .i64 aC,.slice aX av.length aY,.slice bA aj.length aW,.slice bn ay.length aZ],.int .i64 a1,.slice A2 l2.length c2] w fun e w'=>e = .returned (.int .i64 r)∧Below w.heap.size w w':=by
 have uH:=Try.underlying43;have eZ:=AM kC;have oK:=AM kD;clear kC kD;have mD:=AM kE;have oo:=AM kF;clear kE kF;have nQ:=AM kG;have oL:=AM kH;clear kG kH;have HR2:=AM hr2;have HC2:=AM hc2;clear hr2 hc2;have HB:=HRf w;have H : (if 0 < (l2.length : Int) then (if 1 < (l2.length : Int) then ((kP.f k aj (rd l2 0) (rd l2 1)).bind fun wR=>(iD.l0 k a1 wR (wR.length : Int) 0)) else (none)) else (none)) = some r:=h;clear h;replace H:=IC H;obtain ⟨c4,H⟩:=H;have iR:=DT c4;have JY : decide (0 < l2.length) = true:=DT (by omega);clear c4;replace H:=IC H;obtain ⟨c5,H⟩:=H;have ko:=DT c5;have Gw : decide (1 < l2.length) = true:=DT (by omega);clear c5;replace H:=EA H;obtain ⟨wR,A6,H⟩:=H;have H':=AM H;clear H;go_enter Try.func54,Try.ntmps54;try go_wp2_with (first|((with_reducible refine dG (N:=3) rfl ?_);refine gq ?hg (N:=3) ?hd (cs:=#[.int .i64 aC,.slice aX av.length aY,.slice bA aj.length aW,.slice bn ay.length aZ]) (t:=43) ?hr ?_;(case hd=>rfl);(case hg=>rfl);(case hr=>exact GS);intro Gj hg w7 aJ hb;have vv:=AM aJ;have aEs:=AM ((by rw [hg];exact (BZ BB) : w.heap.size ≤ Gj));have OA:=AM ((by rw [hg];exact (BZ BB) : w.heap.size ≤ Gj));replace HB:=HS hb;clear hb aJ hg))
 replace vv:=AM (bL vv.out);replace HB:=AM (fA HB.out);have Y1 : 0 ≤ (0 : Int):=(by omega);have Y2 : 0 < (l2.length : Int):=OD AS;obtain ⟨Xz,azw,Jl⟩:=Kd.aN HR2.out 0 Y1 Y2;have Ri:=Jl
 (try rw [show ((0 : Int)).toNat = 0 from rfl] at Ri)
 (try rw [show 0 * 1 = 0 from rfl] at Ri)
 (try rw [Addr.add_zero'] at Ri);cases azw;have aEt : (0 < l2.length) = True:=ET (by omega)
 (try rw [show ((0 : Int)).toNat = 0 from rfl] at Jl)
 (try rw [Addr.add_zero'] at Jl);try (replace Jl:=LC Jl)
 replace Y1:=ET Y1;replace Y2:=ET Y2;have Y3 : 0 ≤ (1 : Int):=(by omega);have Y4 : 1 < (l2.length : Int):=OD AS;obtain ⟨awn,azx,Jm⟩:=Kd.aN HR2.out 1 Y3 Y4;have Rj:=Jm
 (try rw [show ((1 : Int)).toNat = 1 from rfl] at Rj)
 (try rw [show 1 * 1 = 1 from rfl] at Rj)
 (try simp only [Nat.reduceMul,Nat.reduceEqDiff,Go.Addr.add,↓reduceIte] at Rj);obtain rfl : Xz = awn:=(by injection azx)
 (try simp only [show (1 : Int).toNat = 1 from rfl,Nat.reduceMul,Nat.reduceEqDiff,Go.Addr.add,↓reduceIte] at Jm);have aEu : (1 < l2.length) = True:=ET (by omega)
 (try rw [show ((1 : Int)).toNat = 1 from rfl] at Jm);try (replace Jm:=LC Jm)
 replace Y3:=ET Y3;replace Y4:=ET Y4;refine PSt (n:=11) (S:=fun w'=>w'.cell? ⟨Gj,0,none⟩ = some (.int .i64 aC)∧w'.cell? ⟨Gj,1,none⟩ = some (.slice aX av.length aY)∧w'.cell? ⟨Gj,2,none⟩ = some (.slice bA aj.length aW)∧w'.cell? ⟨Gj,3,none⟩ = some (.slice bn ay.length aZ)∧w'.cell? Xz = some (.int .i64 (rd l2 0))∧w'.cell? ⟨Xz.block,Xz.off + 1,none⟩ = some (.int .i64 (rd l2 1))) (ds:=[]) ⟨(BC vv.out 0).trans rfl,(BC vv.out 1).trans rfl,(BC vv.out 2).trans rfl,(BC vv.out 3).trans rfl,LC Ri,LC Rj⟩ (fun hHeld=>?_);refine lK iD.KI iD.Jz (fun HT_ HW_=>?_);generalize w7.drew = w8 at vv HB Jl Jm hHeld ⊢;refine PA 0 9 HT_ ?_;refine PA 2 11 HT_ ?_;refine PA 3 12 HT_ ?_;refine PA 5 14 HT_ ?_;refine PA 6 15 HT_ ?_;refine PA 10 19 HT_ ?_;refine PB 1 10 HT_ HW_ hHeld ?_;refine PB 4 13 HT_ HW_ hHeld ?_;refine PB 7 16 HT_ HW_ hHeld ?_;refine PC 8 17 HT_ (fun K hK=>?_);refine iL Try.func83 (by kernel_rfl) rfl #[.slice bA aj.length aW,.int .i64 (rd l2 0),.int .i64 (rd l2 1)] (by rfl) rfl rfl TA ?_;with_reducible refine (kP.calls k _ _ aj (rd l2 0) (rd l2 1) wR _ ?aU ?aV A6.out).mono ?_
 (case aU=>exact CW (Kd.aQ mD.out HB.out))
 (case aV=>exact oo.out);rintro e w9 ⟨aHa,rfl,ho0,hb⟩;refine ⟨_,rfl,?_⟩;have alV:=AM (Kd.bD ho0 (BZ (AGE OA)));replace vv:=AM (eU (g:=Gj) (o:=.cells #[.int .i64 aC,.slice aX av.length aY,.slice bA aj.length aW,.slice bn ay.length aZ] 43 (0,0)) (BW vv) hb);replace HB:=HG OA hb;try clear hb ho0
 obtain ⟨cO,bY,uJ⟩:=Kd.bG alV.out
 (first|subst uJ|(injection uJ with f1_ f2_ f3_;have f4_:=f1_.symm;have f5_:=f3_.symm;clear f1_ f2_ f3_;subst f4_;subst f5_));refine hK.out _ _ ⟨(BC vv.out 0).trans rfl,(BC vv.out 1).trans rfl,(BC vv.out 2).trans rfl,(BC vv.out 3).trans rfl,LC Ri,LC Rj⟩ (fun hHeld=>?_);clear hK K;refine iy (a':=?_) ?_ ?_;rotate_left
 ·show Act.put _ (some 17) _ = _;simp only [Act.put,List.setIfInBounds_toArray,List.set_cons_zero,List.set_cons_succ,dJ,eX];rfl
 refine PA 9 18 HT_ ?_;refine l8 (l5 HT_.out (by kernel_rfl)) ?_;try go_wp2
 go_loopg [19] k (fun kq v19 w'=>∃ (bO : Int),v19 = .int .i64 bO∧ak (iD.l0 kq a1 wR (wR.length : Int) bO = some r)∧ak (kq ≤ k)∧ak (Kd.R (Kd.int .i64) 3 w' w.heap.size (fun _=>True) (.slice cO wR.length bY) wR)∧ak (w'.heap[Gj]? = some (.cells #[.int .i64 aC,(.slice aX av.length aY),(.slice bA aj.length aW),(.slice bn ay.length aZ)] 43 (0,0)))∧ak (Below w.heap.size w w'))
 case atStart=>exact ⟨(0),RF,H',⟨Nat.le_refl _⟩,⟨KR alV⟩,⟨by (with_reducible repeat (first|refine bZ ?_ _|refine bL ?_|refine bV ?_ _));exact vv.out⟩,⟨AGE OA⟩⟩
 case round =>
  clear H';try clear c2
  try clear p2
  try clear p3
  try clear q3
  try clear hx3
  try clear qi3
  try clear c4
  try clear iR
  try clear JY
  try clear c5
  try clear ko
  try clear Gw
  try clear p6
  try clear c8
  try clear Jl
  try clear Jm
  try clear Y1
  try clear Y3
  try clear Y2
  try clear Y4
  obtain ⟨bO,rfl,HA,HK1,oP,vv,HB⟩:=hrel;cases gk with
  | zero=>exact absurd HA.out (by simp [iD.l0])
  | succ k1 =>
   have H:=HA.out;clear HA;simp only [iD.l0] at H;by_cases c11 : bO < (wR.length : Int)
   ·rw [if_pos c11] at H;have qK:=DT c11;clear c11;replace H:=IC H;obtain ⟨c12,H⟩:=H;have rQ:=DT c12;clear c12;replace H:=IC H;obtain ⟨c13,H⟩:=H;have D6:=DT c13;clear c13;by_cases c14 : (rd wR bO) = a1
    ·rw [if_pos c14] at H;have uj:=QT c14;have R4:=bne_eq_false_iff_eq.mpr c14;clear c14;have H':=AM H;clear H;have Mx : 0 ≤ (bO : Int):=OD AS;have MB : bO < (wR.length : Int):=OD AS;obtain ⟨awo,agI,aqQ⟩:=Kd.aN (Kd.aA oP.out).2.2 bO Mx MB;cases agI;replace Mx:=ET Mx;replace MB:=ET MB;go_wp2;go_roundg k1
     case measure=>have:=HK1.out;omega
     case rel=>exact ⟨(wrap64 (bO + 1)),RF,H',⟨by have:=HK1.out;omega⟩,⟨KR oP⟩,⟨by (with_reducible repeat (first|refine bZ ?_ _|refine bL ?_|refine bV ?_ _));exact vv.out⟩,⟨AGE OA⟩⟩
    ·rw [if_neg c14] at H;have uj:=beq_eq_false_iff_ne.mpr c14;have R4:=bne_iff_ne.mpr c14;obtain rfl:=Option.some.inj H;have Mx : 0 ≤ (bO : Int):=OD AS;have MB : bO < (wR.length : Int):=OD AS;obtain ⟨awo,agI,aqQ⟩:=Kd.aN (Kd.aA oP.out).2.2 bO Mx MB;cases agI;replace Mx:=ET Mx;replace MB:=ET MB;go_wp2;go_ret;exact ⟨RE,AGE OA⟩
   ·rw [if_neg c11] at H;have qK:=DF c11;clear c11;obtain rfl:=Option.some.inj H;go_wp2;go_ret;exact ⟨RE,AGE OA⟩

end Go.Proofs.Ythaonijhfeemfaa.dL
