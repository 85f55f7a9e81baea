-- Written by a program of this session (wip/tools/pp.sh) out of the translation; Lean checks it.
import Derived.Test.YtlolkkfpfjlhmaaPFnOppositeEdgesFoundx0
namespace Go.Proofs.Ytlolkkfpfjlhmaa.PFnOppositeEdgesFound
open Go.RowKit Go.Proofs.YtlolkkfpfjlhmaaOwn Go.Proofs.YtlolkkfpfjlhmaaW.PrintWords Go.Proofs.YtlolkkfpfjlhmaaW.PrintLast Go.Proofs.YtlolkkfpfjlhmaaW.PrintMore
attribute [local go_sem] max2_int min2_int max_two min_two max_three min_three max_four min_four   -- for this text's walks alone
set_option linter.unusedVariables false
set_option maxHeartbeats 8000000
set_option maxRecDepth 100000
set_option linter.unusedSimpArgs false

/-! ### impl_firstEdge: function 27 (given) -/
def impl_firstEdge.l0 : Nat→List Int→List (List Int)→Int→Int→Option (List Int)
 | 0,_,_,_,_=>none
 | k + 1,x0,x28,x29,x30=>if x30 < x29 then (if 0 ≤ x30 then (if x30 < (x28.length : Int) then (if 0 < ((rd_L2 x28 x30).length : Int) then (if 0 ≤ (rd (rd_L2 x28 x30) 0) then (if (rd (rd_L2 x28 x30) 0) < (x0.length : Int) then (if 1 < ((rd_L2 x28 x30).length : Int) then (if 0 ≤ (rd (rd_L2 x28 x30) 1) then (if (rd (rd_L2 x28 x30) 1) < (x0.length : Int) then (if (wrap64 ((rd x0 (rd (rd_L2 x28 x30) 0)) + (rd x0 (rd (rd_L2 x28 x30) 1)))) = 0 then (some (rd_L2 x28 x30)) else (impl_firstEdge.l0 k x0 x28 x29 (wrap64 (x30 + 1)))) else (none)) else (none)) else (none)) else (none)) else (none)) else (none)) else (none)) else (none)) else (some ([] : List Int))
def impl_firstEdge.f (k : Nat) (l0 : List Int) (l1 : List Int) : Option (List Int):=if 0 < (l1.length : Int) then (if 1 < (l1.length : Int) then (if 2 < (l1.length : Int) then ((some (([(([rd l1 0,rd l1 1] : List Int)),(([rd l1 0,rd l1 2] : List Int)),(([rd l1 1,rd l1 2] : List Int))] : List (List Int)) : List (List Int))).bind fun y333=>(impl_firstEdge.l0 k l0 y333 (y333.length : Int) 0)) else (none)) else (none)) else (none)
theorem impl_firstEdge.mono_l : ∀ k,(∀ y0 y1 y2 y3,LeO (impl_firstEdge.l0 k y0 y1 y2 y3) (impl_firstEdge.l0 (k + 1) y0 y1 y2 y3))
 | 0=>fun _ _ _ _ r h=>by simp [impl_firstEdge.l0] at h
 | k + 1=>by
  have ih0:=impl_firstEdge.mono_l k
  ·intro y0 y1 y2 y3
   unfold impl_firstEdge.l0
   exact MO
theorem impl_firstEdge.mono : ∀ a0 a1 k,LeO (impl_firstEdge.f k a0 a1) (impl_firstEdge.f (k + 1) a0 a1):=by
 intro a0 a1 k;have ih0:=impl_firstEdge.mono_l k;unfold impl_firstEdge.f
 exact MO
def impl_firstEdge.T1 : Bool × List (List Nat × List Nat):=(true,[([],[]),([0],[0]),([1],[1]),([],[]),([3],[3]),([4],[4]),([2,5],[2,5]),([],[]),([7],[7]),([8],[8]),([],[]),([10],[10]),([11],[11]),([9,12],[9,12]),([],[]),([14],[14]),([15],[15]),([],[]),([17],[17]),([18],[18]),([16,19],[16,19]),([6,13,20],[6,13,20]),([21],[21]),([],[])])
def impl_firstEdge.B1 : List Nat:=[0,1,3,0,8,24,63,0,128,384,0,1024,3072,8064,0,16384,49152,0,131072,393216,1032192,2097151,4194303,0]
theorem impl_firstEdge.tab1 : rtab .any (opsOf Try.f27 1) = impl_firstEdge.T1:=by kernel_rfl
theorem impl_firstEdge.bits1 : waitsOk impl_firstEdge.T1.2 impl_firstEdge.B1 = true:=by kernel_rfl
def impl_firstEdge.T4 : Bool × List (List Nat × List Nat):=(true,[([],[]),([],[]),([1],[1]),([2],[2]),([0,3],[0,3]),([4],[4]),([],[]),([],[]),([7],[7]),([8],[8]),([6,9],[6,9]),([10],[10]),([5,11],[5,11]),([12],[12])])
def impl_firstEdge.B4 : List Nat:=[0,0,2,6,15,31,0,0,128,384,960,1984,4095,8191]
theorem impl_firstEdge.tab4 : rtab .any (opsOf Try.f27 4) = impl_firstEdge.T4:=by kernel_rfl
theorem impl_firstEdge.bits4 : waitsOk impl_firstEdge.T4.2 impl_firstEdge.B4 = true:=by kernel_rfl
theorem impl_firstEdge.calls (k : Nat) (A0 : Option Addr) (c0 : Nat) (l0 : List Int) (A1 : Option Addr) (c1 : Nat) (l1 : List Int) (r : List Int) (w : World) (hr0 : Kd.C (Kd.int .i64) w A0 l0.length l0) (hc0 : l0.length ≤ c0) (hr1 : Kd.C (Kd.int .i64) w A1 l1.length l1) (hc1 : l1.length ≤ c1) (h : impl_firstEdge.f k l0 l1 = some r) :
  Calls Try.prog 27 #[.slice A0 l0.length c0,.slice A1 l1.length c1] w fun e w'=>∃ v0_ : Value,e = .returned (v0_)∧Kd.R (Kd.int .i64) 3 w' w.heap.size (fun k_=>(w.heap.size ≤ k_)) v0_ r∧Below w.heap.size w w':=by
 have HR0:=AM hr0;have HC0:=AM hc0;clear hr0 hc0;have HR1:=AM hr1;have HC1:=AM hc1;clear hr1 hc1;have HB:=HRf w;have H : (if 0 < (l1.length : Int) then (if 1 < (l1.length : Int) then (if 2 < (l1.length : Int) then ((some (([(([rd l1 0,rd l1 1] : List Int)),(([rd l1 0,rd l1 2] : List Int)),(([rd l1 1,rd l1 2] : List Int))] : List (List Int)) : List (List Int))).bind fun y333=>(impl_firstEdge.l0 k l0 y333 (y333.length : Int) 0)) else (none)) else (none)) else (none)) = some r:=h;clear h;replace H:=IC H;obtain ⟨c3,H⟩:=H;have c3b0:=DT c3;have c3b1 : decide (0 < l1.length) = true:=DT (by omega);clear c3;replace H:=IC H;obtain ⟨c4,H⟩:=H;have c4b0:=DT c4;have c4b1 : decide (1 < l1.length) = true:=DT (by omega);clear c4;obtain ⟨y320,hy320⟩ : ∃ y_ : List Int,y_ = (([rd l1 0,rd l1 1] : List Int)):=⟨_,rfl⟩;replace H : (if 2 < (l1.length : Int) then ((some (([y320,(([rd l1 0,rd l1 2] : List Int)),(([rd l1 1,rd l1 2] : List Int))] : List (List Int)) : List (List Int))).bind fun y333=>(impl_firstEdge.l0 k l0 y333 (y333.length : Int) 0)) else (none)) = some r:=HY H hy320;have Ny320:=AM hy320;clear hy320;replace H:=IC H;obtain ⟨c5,H⟩:=H;have c5b0:=DT c5;have c5b1 : decide (2 < l1.length) = true:=DT (by omega);clear c5;obtain ⟨y325,hy325⟩ : ∃ y_ : List Int,y_ = (([rd l1 0,rd l1 2] : List Int)):=⟨_,rfl⟩;replace H : ((some (([y320,y325,(([rd l1 1,rd l1 2] : List Int))] : List (List Int)) : List (List Int))).bind fun y333=>(impl_firstEdge.l0 k l0 y333 (y333.length : Int) 0)) = some r:=HY H hy325;have Ny325:=AM hy325;clear hy325;obtain ⟨y330,hy330⟩ : ∃ y_ : List Int,y_ = (([rd l1 1,rd l1 2] : List Int)):=⟨_,rfl⟩;replace H : ((some (([y320,y325,y330] : List (List Int)) : List (List Int))).bind fun y333=>(impl_firstEdge.l0 k l0 y333 (y333.length : Int) 0)) = some r:=HY H hy330;have Ny330:=AM hy330;clear hy330;obtain ⟨y333,hy333⟩ : ∃ y_ : List (List Int),y_ = (([y320,y325,y330] : List (List Int))):=⟨_,rfl⟩;replace H : (impl_firstEdge.l0 k l0 y333 (y333.length : Int) 0) = some r:=HY H hy333;have Ny333:=AM hy333;clear hy333;have H':=AM H;clear H;go_enter Try.func27,Try.ntmps27;try go_wp2
 replace HB:=AM (below_drew1 HB.out);have p318 : 0 ≤ (0 : Int):=(by omega);have q318 : 0 < (l1.length : Int):=OD AS;obtain ⟨ad318,e318,hx318_0⟩:=Kd.at_int HR1.out 0 p318 q318;have hw318_0:=hx318_0
 (try rw [show ((0 : Int)).toNat = 0 from rfl] at hw318_0)
 (try rw [show 0 * 1 = 0 from rfl] at hw318_0)
 (try rw [Addr.add_zero'] at hw318_0);cases e318;have qi318 : (0 < l1.length) = True:=ET (by omega)
 (try rw [show ((0 : Int)).toNat = 0 from rfl] at hx318_0)
 (try rw [Addr.add_zero'] at hx318_0);try (replace hx318_0:=LC hx318_0)
 replace p318:=ET p318;replace q318:=ET q318;have p319 : 0 ≤ (1 : Int):=(by omega);have q319 : 1 < (l1.length : Int):=OD AS;obtain ⟨ad319,e319,hx319_0⟩:=Kd.at_int HR1.out 1 p319 q319;have hw319_0:=hx319_0
 (try rw [show ((1 : Int)).toNat = 1 from rfl] at hw319_0)
 (try rw [show 1 * 1 = 1 from rfl] at hw319_0)
 (try simp only [Nat.reduceMul,Nat.reduceEqDiff,Go.Addr.add,↓reduceIte] at hw319_0);obtain rfl : ad318 = ad319:=(by injection e319)
 (try simp only [show (1 : Int).toNat = 1 from rfl,Nat.reduceMul,Nat.reduceEqDiff,Go.Addr.add,↓reduceIte] at hx319_0);have qi319 : (1 < l1.length) = True:=ET (by omega)
 (try rw [show ((1 : Int)).toNat = 1 from rfl] at hx319_0);try (replace hx319_0:=LC hx319_0)
 replace p319:=ET p319;replace q319:=ET q319;have p323 : 0 ≤ (0 : Int):=(by omega);have q323 : 0 < (l1.length : Int):=OD AS;obtain ⟨ad323,e323,hx323_0⟩:=Kd.at_int HR1.out 0 p323 q323;have hw323_0:=hx323_0
 (try rw [show ((0 : Int)).toNat = 0 from rfl] at hw323_0)
 (try rw [show 0 * 1 = 0 from rfl] at hw323_0)
 (try rw [Addr.add_zero'] at hw323_0);obtain rfl : ad318 = ad323:=(by injection e323);have qi323 : (0 < l1.length) = True:=ET (by omega)
 (try rw [show ((0 : Int)).toNat = 0 from rfl] at hx323_0)
 (try rw [Addr.add_zero'] at hx323_0);try (replace hx323_0:=LC hx323_0)
 replace p323:=ET p323;replace q323:=ET q323;have p324 : 0 ≤ (2 : Int):=(by omega);have q324 : 2 < (l1.length : Int):=OD AS;obtain ⟨ad324,e324,hx324_0⟩:=Kd.at_int HR1.out 2 p324 q324;have hw324_0:=hx324_0
 (try rw [show ((2 : Int)).toNat = 2 from rfl] at hw324_0)
 (try rw [show 2 * 1 = 2 from rfl] at hw324_0)
 (try simp only [Nat.reduceMul,Nat.reduceEqDiff,Go.Addr.add,↓reduceIte] at hw324_0);obtain rfl : ad318 = ad324:=(by injection e324)
 (try simp only [show (2 : Int).toNat = 2 from rfl,Nat.reduceMul,Nat.reduceEqDiff,Go.Addr.add,↓reduceIte] at hx324_0);have qi324 : (2 < l1.length) = True:=ET (by omega)
 (try rw [show ((2 : Int)).toNat = 2 from rfl] at hx324_0);try (replace hx324_0:=LC hx324_0)
 replace p324:=ET p324;replace q324:=ET q324;have p328 : 0 ≤ (1 : Int):=(by omega);have q328 : 1 < (l1.length : Int):=OD AS;obtain ⟨ad328,e328,hx328_0⟩:=Kd.at_int HR1.out 1 p328 q328;have hw328_0:=hx328_0
 (try rw [show ((1 : Int)).toNat = 1 from rfl] at hw328_0)
 (try rw [show 1 * 1 = 1 from rfl] at hw328_0)
 (try simp only [Nat.reduceMul,Nat.reduceEqDiff,Go.Addr.add,↓reduceIte] at hw328_0);obtain rfl : ad318 = ad328:=(by injection e328)
 (try simp only [show (1 : Int).toNat = 1 from rfl,Nat.reduceMul,Nat.reduceEqDiff,Go.Addr.add,↓reduceIte] at hx328_0);have qi328 : (1 < l1.length) = True:=ET (by omega)
 (try rw [show ((1 : Int)).toNat = 1 from rfl] at hx328_0);try (replace hx328_0:=LC hx328_0)
 replace p328:=ET p328;replace q328:=ET q328;have p329 : 0 ≤ (2 : Int):=(by omega);have q329 : 2 < (l1.length : Int):=OD AS;obtain ⟨ad329,e329,hx329_0⟩:=Kd.at_int HR1.out 2 p329 q329;have hw329_0:=hx329_0
 (try rw [show ((2 : Int)).toNat = 2 from rfl] at hw329_0)
 (try rw [show 2 * 1 = 2 from rfl] at hw329_0)
 (try simp only [Nat.reduceMul,Nat.reduceEqDiff,Go.Addr.add,↓reduceIte] at hw329_0);obtain rfl : ad318 = ad329:=(by injection e329)
 (try simp only [show (2 : Int).toNat = 2 from rfl,Nat.reduceMul,Nat.reduceEqDiff,Go.Addr.add,↓reduceIte] at hx329_0);have qi329 : (2 < l1.length) = True:=ET (by omega)
 (try rw [show ((2 : Int)).toNat = 2 from rfl] at hx329_0);try (replace hx329_0:=LC hx329_0)
 replace p329:=ET p329;replace q329:=ET q329;refine PSt (n:=24) (S:=fun w'=>True) (ds:=[]) trivial (fun hHeld=>?_);refine with_tabW impl_firstEdge.tab1 impl_firstEdge.bits1 (fun HT_ HW_=>?_);generalize w.drew = w6 at HB hx318_0 hx319_0 hx323_0 hx324_0 hx328_0 hx329_0 hHeld ⊢;refine PA 0 7 HT_ ?_;refine PA 3 10 HT_ ?_;refine PA 7 14 HT_ ?_;refine PA 10 17 HT_ ?_;refine PA 14 21 HT_ ?_;refine PA 17 24 HT_ ?_;refine PA 23 30 HT_ ?_;refine inv_at [1,2,4,5,6,8,9,11,12,13,15,16,18,19,20,21,22] (fun a0_ b a w'=>∃ (v321 : Value) (v326 : Value) (v331 : Value) (v334 : Value),a = putSel a0_ b [(1,8,.pointer (some ad318)),(2,9,.int .i64 (rd l1 0)),(4,11,.pointer (some (ad318.add 1))),(5,12,.int .i64 (rd l1 1)),(6,13,v321),(8,15,.pointer (some ad318)),(9,16,.int .i64 (rd l1 0)),(11,18,.pointer (some (ad318.add 2))),(12,19,.int .i64 (rd l1 2)),(13,20,v326),(15,22,.pointer (some (ad318.add 1))),(16,23,.int .i64 (rd l1 1)),(18,25,.pointer (some (ad318.add 2))),(19,26,.int .i64 (rd l1 2)),(20,27,v331),(21,28,v334),(22,29,.int .i64 (y333.length : Int))]∧(Below w.heap.size w w')∧(b 6 = true→b 21 = false→Kd.R (Kd.int .i64) 3 w' w.heap.size (fun k_=>(w.heap.size ≤ k_)) v321 y320)∧(b 13 = true→b 21 = false→Kd.R (Kd.int .i64) 3 w' w.heap.size (fun k_=>(w.heap.size ≤ k_)) v326 y325)∧(b 20 = true→b 21 = false→Kd.R (Kd.int .i64) 3 w' w.heap.size (fun k_=>(w.heap.size ≤ k_)) v331 y330)∧(b 21 = true→Kd.R (Kd.slice 3 (Kd.int .i64)) 24 w' w.heap.size (fun k_=>(w.heap.size ≤ k_)) v334 y333)) HT_.out HW_.out (by kernel_rfl) (by kernel_rfl) ?_ ?_ ?_
 ·exact ⟨.bool false,.bool false,.bool false,.bool false,by simp only [putSel,Bool.false_eq_true,if_false],HB.out,fun h_=>absurd h_ (by decide),fun h_=>absurd h_ (by decide),fun h_=>absurd h_ (by decide),fun h_=>absurd h_ (by decide)⟩
 ·skip
  clear HB;refine steps_cons ?_ ?_
  ·rintro b a w' ⟨v321,v326,v331,v334,ha,Q_HB,Q_HO322,Q_HO327,Q_HO332,Q_HO335⟩ hb_ hon hoff;refine ⟨_,rfl,fun K hK=>?_⟩;have e7 : a.tmps[7]? = some (.slice (some ad318) l1.length c1):=by rw [ha];exact (putSel_off rfl).trans rfl
   replace ha:=AM ha;have HB:=AM Q_HB;have hs0_ : w'.cell? ad318 = some (.int .i64 (rd l1 0)):=(LC hw318_0);refine value_ (w1:=w') (v:=.pointer (some ad318)) (by rfl) rfl ?_ ?_
   ·exact PG
   refine hK.out _ _ ⟨v321,v326,v331,v334,(by rw [ha.out];exact putSel_upk 0 hb_ rfl rfl rfl),Q_HB,fun h0_ _=>absurd ((hoff 6 (by kernel_rfl)).symm.trans h0_) (by decide),Q_HO327,Q_HO332,fun h0_=>absurd ((hoff 21 (by kernel_rfl)).symm.trans h0_) (by decide)⟩
  refine steps_cons ?_ ?_
  ·rintro b a w' ⟨v321,v326,v331,v334,ha,Q_HB,Q_HO322,Q_HO327,Q_HO332,Q_HO335⟩ hb_ hon hoff;refine ⟨_,rfl,fun K hK=>?_⟩;have e8 : a.tmps[8]? = some (.pointer (some ad318)):=by rw [ha];exact putSel_on (e:=(1,8,.pointer (some ad318))) 0 rfl rfl (hon 1 (by kernel_rfl)) rfl
   replace ha:=AM ha;have HB:=AM Q_HB;have hs0_ : w'.cell? ad318 = some (.int .i64 (rd l1 0)):=(LC hw318_0);refine value_ (w1:=w') (v:=.int .i64 (rd l1 0)) (by rfl) rfl ?_ ?_
   ·exact PG
   refine hK.out _ _ ⟨v321,v326,v331,v334,(by rw [ha.out];exact putSel_upk 1 hb_ rfl rfl rfl),Q_HB,fun h0_ _=>absurd ((hoff 6 (by kernel_rfl)).symm.trans h0_) (by decide),Q_HO327,Q_HO332,fun h0_=>absurd ((hoff 21 (by kernel_rfl)).symm.trans h0_) (by decide)⟩
  refine steps_cons ?_ ?_
  ·rintro b a w' ⟨v321,v326,v331,v334,ha,Q_HB,Q_HO322,Q_HO327,Q_HO332,Q_HO335⟩ hb_ hon hoff;refine ⟨_,rfl,fun K hK=>?_⟩;have e10 : a.tmps[10]? = some (.slice (some ad318) l1.length c1):=by rw [ha];exact (putSel_off rfl).trans rfl
   replace ha:=AM ha;have HB:=AM Q_HB;have hs1_ : w'.cell? ⟨ad318.block,ad318.off + 1,none⟩ = some (.int .i64 (rd l1 1)):=(LC hw319_0);refine value_ (w1:=w') (v:=.pointer (some (ad318.add 1))) (by rfl) rfl ?_ ?_
   ·exact PG
   refine hK.out _ _ ⟨v321,v326,v331,v334,(by rw [ha.out];exact putSel_upk 2 hb_ rfl rfl rfl),Q_HB,fun h0_ _=>absurd ((hoff 6 (by kernel_rfl)).symm.trans h0_) (by decide),Q_HO327,Q_HO332,fun h0_=>absurd ((hoff 21 (by kernel_rfl)).symm.trans h0_) (by decide)⟩
  refine steps_cons ?_ ?_
  ·rintro b a w' ⟨v321,v326,v331,v334,ha,Q_HB,Q_HO322,Q_HO327,Q_HO332,Q_HO335⟩ hb_ hon hoff;refine ⟨_,rfl,fun K hK=>?_⟩;have e11 : a.tmps[11]? = some (.pointer (some (ad318.add 1))):=by rw [ha];exact putSel_on (e:=(4,11,.pointer (some (ad318.add 1)))) 2 rfl rfl (hon 4 (by kernel_rfl)) rfl
   replace ha:=AM ha;have HB:=AM Q_HB;have hs1_ : w'.cell? ⟨ad318.block,ad318.off + 1,none⟩ = some (.int .i64 (rd l1 1)):=(LC hw319_0);refine value_ (w1:=w') (v:=.int .i64 (rd l1 1)) (by rfl) rfl ?_ ?_
   ·exact PG
   refine hK.out _ _ ⟨v321,v326,v331,v334,(by rw [ha.out];exact putSel_upk 3 hb_ rfl rfl rfl),Q_HB,fun h0_ _=>absurd ((hoff 6 (by kernel_rfl)).symm.trans h0_) (by decide),Q_HO327,Q_HO332,fun h0_=>absurd ((hoff 21 (by kernel_rfl)).symm.trans h0_) (by decide)⟩
  refine steps_cons ?_ ?_
  ·rintro b a w' ⟨v321,v326,v331,v334,ha,Q_HB,Q_HO322,Q_HO327,Q_HO332,Q_HO335⟩ hb_ hon hoff;refine ⟨_,rfl,fun K hK=>?_⟩;have e9 : a.tmps[9]? = some (.int .i64 (rd l1 0)):=by rw [ha];exact putSel_on (e:=(2,9,.int .i64 (rd l1 0))) 1 rfl rfl (hon 2 (by kernel_rfl)) rfl
   have e12 : a.tmps[12]? = some (.int .i64 (rd l1 1)):=by rw [ha];exact putSel_on (e:=(5,12,.int .i64 (rd l1 1))) 3 rfl rfl (hon 5 (by kernel_rfl)) rfl
   replace ha:=AM ha;have HB:=AM Q_HB;refine Kd.R_lit_step (Kd.int .i64) _ 3 ?hg (N:=13) ?hd (xs:=([rd l1 0,rd l1 1] : List Int)) (inner:=[.int .i64 (rd l1 0),.int .i64 (rd l1 1)]) (ok:=fun _=>True) (okp:=fun _=>True) ?hr ?hp (fun _ hk=>hk) trivial (Below.refl _ _) (Nat.le_refl _) (by simp) ?_;(case hd=>rfl);(case hg=>rfl);(case hr=>exact GS);(case hp=>exact (Reps.one (show Kd.M (Kd.int .i64) _ _ _ (rd l1 0) [.int .i64 (rd l1 0)] from rfl) (Reps.one (show Kd.M (Kd.int .i64) _ _ _ (rd l1 1) [.int .i64 (rd l1 1)] from rfl) (Reps.none _ _))));intro v321 w7 ho8 hb hg_ hnew_;clear hg_ hnew_
   (first|rw [← Ny320.out] at ho8|(simp only [Int.reduceToNat] at ho8;rw [← Ny320.out] at ho8));have n0_:=AM (Kd.R_lower (Kd.R_newM (M:=fun k_=>(w.heap.size ≤ k_)) ho8 (BZ BB) (fun k_ h_=>h_)) (BZ BB));have n1_:=HS hb;have z_HO327:=fun (h0_ : b 13 = true) (h1_ : b 21 = false)=>(show Kd.R (Kd.int .i64) 3 w7 w.heap.size (fun k_=>(w.heap.size ≤ k_)) v326 y325 from by first|exact (Kd.R_elder' (by (with_reducible repeat (first|apply Kd.R_alloc|apply Kd.R_drewN|apply Kd.R_drew));exact (Q_HO327 h0_ h1_)) (Kd.R_base ho8) hb)|exact Kd.R_mono (Kd.R_elder' (by (with_reducible repeat (first|apply Kd.R_alloc|apply Kd.R_drewN|apply Kd.R_drew));exact (Q_HO327 h0_ h1_)) (Kd.R_base ho8) hb) (fun _ h_=>by first|trivial|exact h_|exact h_.1))
   have z_HO332:=fun (h0_ : b 20 = true) (h1_ : b 21 = false)=>(show Kd.R (Kd.int .i64) 3 w7 w.heap.size (fun k_=>(w.heap.size ≤ k_)) v331 y330 from by first|exact (Kd.R_elder' (by (with_reducible repeat (first|apply Kd.R_alloc|apply Kd.R_drewN|apply Kd.R_drew));exact (Q_HO332 h0_ h1_)) (Kd.R_base ho8) hb)|exact Kd.R_mono (Kd.R_elder' (by (with_reducible repeat (first|apply Kd.R_alloc|apply Kd.R_drewN|apply Kd.R_drew));exact (Q_HO332 h0_ h1_)) (Kd.R_base ho8) hb) (fun _ h_=>by first|trivial|exact h_|exact h_.1))
   clear HB;have HO322:=n0_;have HB:=n1_;clear n0_ n1_;clear hb ho8;refine hK.out _ _ ⟨v321,v326,v331,v334,(by rw [ha.out];exact putSel_upk 4 hb_ rfl rfl rfl),BB,fun _ _=>(by (with_reducible repeat (first|apply Kd.R_alloc|apply Kd.R_drewN|apply Kd.R_drew));exact Kd.R_mono HO322.out (fun _ hk=>hk.1)),z_HO327,z_HO332,fun h0_=>absurd ((hoff 21 (by kernel_rfl)).symm.trans h0_) (by decide)⟩
  refine steps_cons ?_ ?_
  ·rintro b a w' ⟨v321,v326,v331,v334,ha,Q_HB,Q_HO322,Q_HO327,Q_HO332,Q_HO335⟩ hb_ hon hoff;refine ⟨_,rfl,fun K hK=>?_⟩;have e14 : a.tmps[14]? = some (.slice (some ad318) l1.length c1):=by rw [ha];exact (putSel_off rfl).trans rfl
   replace ha:=AM ha;have HB:=AM Q_HB;have hs2_ : w'.cell? ad318 = some (.int .i64 (rd l1 0)):=(LC hw323_0);refine value_ (w1:=w') (v:=.pointer (some ad318)) (by rfl) rfl ?_ ?_
   ·exact PG
   refine hK.out _ _ ⟨v321,v326,v331,v334,(by rw [ha.out];exact putSel_upk 5 hb_ rfl rfl rfl),Q_HB,Q_HO322,fun h0_ _=>absurd ((hoff 13 (by kernel_rfl)).symm.trans h0_) (by decide),Q_HO332,fun h0_=>absurd ((hoff 21 (by kernel_rfl)).symm.trans h0_) (by decide)⟩
  refine steps_cons ?_ ?_
  ·rintro b a w' ⟨v321,v326,v331,v334,ha,Q_HB,Q_HO322,Q_HO327,Q_HO332,Q_HO335⟩ hb_ hon hoff;refine ⟨_,rfl,fun K hK=>?_⟩;have e15 : a.tmps[15]? = some (.pointer (some ad318)):=by rw [ha];exact putSel_on (e:=(8,15,.pointer (some ad318))) 5 rfl rfl (hon 8 (by kernel_rfl)) rfl
   replace ha:=AM ha;have HB:=AM Q_HB;have hs2_ : w'.cell? ad318 = some (.int .i64 (rd l1 0)):=(LC hw323_0);refine value_ (w1:=w') (v:=.int .i64 (rd l1 0)) (by rfl) rfl ?_ ?_
   ·exact PG
   refine hK.out _ _ ⟨v321,v326,v331,v334,(by rw [ha.out];exact putSel_upk 6 hb_ rfl rfl rfl),Q_HB,Q_HO322,fun h0_ _=>absurd ((hoff 13 (by kernel_rfl)).symm.trans h0_) (by decide),Q_HO332,fun h0_=>absurd ((hoff 21 (by kernel_rfl)).symm.trans h0_) (by decide)⟩
  refine steps_cons ?_ ?_
  ·rintro b a w' ⟨v321,v326,v331,v334,ha,Q_HB,Q_HO322,Q_HO327,Q_HO332,Q_HO335⟩ hb_ hon hoff;refine ⟨_,rfl,fun K hK=>?_⟩;have e17 : a.tmps[17]? = some (.slice (some ad318) l1.length c1):=by rw [ha];exact (putSel_off rfl).trans rfl
   replace ha:=AM ha;have HB:=AM Q_HB;have hs3_ : w'.cell? ⟨ad318.block,ad318.off + 2,none⟩ = some (.int .i64 (rd l1 2)):=(LC hw324_0);refine value_ (w1:=w') (v:=.pointer (some (ad318.add 2))) (by rfl) rfl ?_ ?_
   ·exact PG
   refine hK.out _ _ ⟨v321,v326,v331,v334,(by rw [ha.out];exact putSel_upk 7 hb_ rfl rfl rfl),Q_HB,Q_HO322,fun h0_ _=>absurd ((hoff 13 (by kernel_rfl)).symm.trans h0_) (by decide),Q_HO332,fun h0_=>absurd ((hoff 21 (by kernel_rfl)).symm.trans h0_) (by decide)⟩
  refine steps_cons ?_ ?_
  ·rintro b a w' ⟨v321,v326,v331,v334,ha,Q_HB,Q_HO322,Q_HO327,Q_HO332,Q_HO335⟩ hb_ hon hoff;refine ⟨_,rfl,fun K hK=>?_⟩;have e18 : a.tmps[18]? = some (.pointer (some (ad318.add 2))):=by rw [ha];exact putSel_on (e:=(11,18,.pointer (some (ad318.add 2)))) 7 rfl rfl (hon 11 (by kernel_rfl)) rfl
   replace ha:=AM ha;have HB:=AM Q_HB;have hs3_ : w'.cell? ⟨ad318.block,ad318.off + 2,none⟩ = some (.int .i64 (rd l1 2)):=(LC hw324_0);refine value_ (w1:=w') (v:=.int .i64 (rd l1 2)) (by rfl) rfl ?_ ?_
   ·exact PG
   refine hK.out _ _ ⟨v321,v326,v331,v334,(by rw [ha.out];exact putSel_upk 8 hb_ rfl rfl rfl),Q_HB,Q_HO322,fun h0_ _=>absurd ((hoff 13 (by kernel_rfl)).symm.trans h0_) (by decide),Q_HO332,fun h0_=>absurd ((hoff 21 (by kernel_rfl)).symm.trans h0_) (by decide)⟩
  refine steps_cons ?_ ?_
  ·rintro b a w' ⟨v321,v326,v331,v334,ha,Q_HB,Q_HO322,Q_HO327,Q_HO332,Q_HO335⟩ hb_ hon hoff;refine ⟨_,rfl,fun K hK=>?_⟩;have e16 : a.tmps[16]? = some (.int .i64 (rd l1 0)):=by rw [ha];exact putSel_on (e:=(9,16,.int .i64 (rd l1 0))) 6 rfl rfl (hon 9 (by kernel_rfl)) rfl
   have e19 : a.tmps[19]? = some (.int .i64 (rd l1 2)):=by rw [ha];exact putSel_on (e:=(12,19,.int .i64 (rd l1 2))) 8 rfl rfl (hon 12 (by kernel_rfl)) rfl
   replace ha:=AM ha;have HB:=AM Q_HB;refine Kd.R_lit_step (Kd.int .i64) _ 3 ?hg (N:=20) ?hd (xs:=([rd l1 0,rd l1 2] : List Int)) (inner:=[.int .i64 (rd l1 0),.int .i64 (rd l1 2)]) (ok:=fun _=>True) (okp:=fun _=>True) ?hr ?hp (fun _ hk=>hk) trivial (Below.refl _ _) (Nat.le_refl _) (by simp) ?_;(case hd=>rfl);(case hg=>rfl);(case hr=>exact GS);(case hp=>exact (Reps.one (show Kd.M (Kd.int .i64) _ _ _ (rd l1 0) [.int .i64 (rd l1 0)] from rfl) (Reps.one (show Kd.M (Kd.int .i64) _ _ _ (rd l1 2) [.int .i64 (rd l1 2)] from rfl) (Reps.none _ _))));intro v326 w7 ho8 hb hg_ hnew_;clear hg_ hnew_
   (first|rw [← Ny325.out] at ho8|(simp only [Int.reduceToNat] at ho8;rw [← Ny325.out] at ho8));have n0_:=AM (Kd.R_lower (Kd.R_newM (M:=fun k_=>(w.heap.size ≤ k_)) ho8 (BZ BB) (fun k_ h_=>h_)) (BZ BB));have n1_:=HS hb;have z_HO322:=fun (h0_ : b 6 = true) (h1_ : b 21 = false)=>(show Kd.R (Kd.int .i64) 3 w7 w.heap.size (fun k_=>(w.heap.size ≤ k_)) v321 y320 from by first|exact (Kd.R_elder' (by (with_reducible repeat (first|apply Kd.R_alloc|apply Kd.R_drewN|apply Kd.R_drew));exact (Q_HO322 h0_ h1_)) (Kd.R_base ho8) hb)|exact Kd.R_mono (Kd.R_elder' (by (with_reducible repeat (first|apply Kd.R_alloc|apply Kd.R_drewN|apply Kd.R_drew));exact (Q_HO322 h0_ h1_)) (Kd.R_base ho8) hb) (fun _ h_=>by first|trivial|exact h_|exact h_.1))
   have z_HO332:=fun (h0_ : b 20 = true) (h1_ : b 21 = false)=>(show Kd.R (Kd.int .i64) 3 w7 w.heap.size (fun k_=>(w.heap.size ≤ k_)) v331 y330 from by first|exact (Kd.R_elder' (by (with_reducible repeat (first|apply Kd.R_alloc|apply Kd.R_drewN|apply Kd.R_drew));exact (Q_HO332 h0_ h1_)) (Kd.R_base ho8) hb)|exact Kd.R_mono (Kd.R_elder' (by (with_reducible repeat (first|apply Kd.R_alloc|apply Kd.R_drewN|apply Kd.R_drew));exact (Q_HO332 h0_ h1_)) (Kd.R_base ho8) hb) (fun _ h_=>by first|trivial|exact h_|exact h_.1))
   clear HB;have HO327:=n0_;have HB:=n1_;clear n0_ n1_;clear hb ho8;refine hK.out _ _ ⟨v321,v326,v331,v334,(by rw [ha.out];exact putSel_upk 9 hb_ rfl rfl rfl),BB,z_HO322,fun _ _=>(by (with_reducible repeat (first|apply Kd.R_alloc|apply Kd.R_drewN|apply Kd.R_drew));exact Kd.R_mono HO327.out (fun _ hk=>hk.1)),z_HO332,fun h0_=>absurd ((hoff 21 (by kernel_rfl)).symm.trans h0_) (by decide)⟩
  refine steps_cons ?_ ?_
  ·rintro b a w' ⟨v321,v326,v331,v334,ha,Q_HB,Q_HO322,Q_HO327,Q_HO332,Q_HO335⟩ hb_ hon hoff;refine ⟨_,rfl,fun K hK=>?_⟩;have e21 : a.tmps[21]? = some (.slice (some ad318) l1.length c1):=by rw [ha];exact (putSel_off rfl).trans rfl
   replace ha:=AM ha;have HB:=AM Q_HB;have hs4_ : w'.cell? ⟨ad318.block,ad318.off + 1,none⟩ = some (.int .i64 (rd l1 1)):=(LC hw328_0);refine value_ (w1:=w') (v:=.pointer (some (ad318.add 1))) (by rfl) rfl ?_ ?_
   ·exact PG
   refine hK.out _ _ ⟨v321,v326,v331,v334,(by rw [ha.out];exact putSel_upk 10 hb_ rfl rfl rfl),Q_HB,Q_HO322,Q_HO327,fun h0_ _=>absurd ((hoff 20 (by kernel_rfl)).symm.trans h0_) (by decide),fun h0_=>absurd ((hoff 21 (by kernel_rfl)).symm.trans h0_) (by decide)⟩
  refine steps_cons ?_ ?_
  ·rintro b a w' ⟨v321,v326,v331,v334,ha,Q_HB,Q_HO322,Q_HO327,Q_HO332,Q_HO335⟩ hb_ hon hoff;refine ⟨_,rfl,fun K hK=>?_⟩;have e22 : a.tmps[22]? = some (.pointer (some (ad318.add 1))):=by rw [ha];exact putSel_on (e:=(15,22,.pointer (some (ad318.add 1)))) 10 rfl rfl (hon 15 (by kernel_rfl)) rfl
   replace ha:=AM ha;have HB:=AM Q_HB;have hs4_ : w'.cell? ⟨ad318.block,ad318.off + 1,none⟩ = some (.int .i64 (rd l1 1)):=(LC hw328_0);refine value_ (w1:=w') (v:=.int .i64 (rd l1 1)) (by rfl) rfl ?_ ?_
   ·exact PG
   refine hK.out _ _ ⟨v321,v326,v331,v334,(by rw [ha.out];exact putSel_upk 11 hb_ rfl rfl rfl),Q_HB,Q_HO322,Q_HO327,fun h0_ _=>absurd ((hoff 20 (by kernel_rfl)).symm.trans h0_) (by decide),fun h0_=>absurd ((hoff 21 (by kernel_rfl)).symm.trans h0_) (by decide)⟩
  refine steps_cons ?_ ?_
  ·rintro b a w' ⟨v321,v326,v331,v334,ha,Q_HB,Q_HO322,Q_HO327,Q_HO332,Q_HO335⟩ hb_ hon hoff;refine ⟨_,rfl,fun K hK=>?_⟩;have e24 : a.tmps[24]? = some (.slice (some ad318) l1.length c1):=by rw [ha];exact (putSel_off rfl).trans rfl
   replace ha:=AM ha;have HB:=AM Q_HB;have hs5_ : w'.cell? ⟨ad318.block,ad318.off + 2,none⟩ = some (.int .i64 (rd l1 2)):=(LC hw329_0);refine value_ (w1:=w') (v:=.pointer (some (ad318.add 2))) (by rfl) rfl ?_ ?_
   ·exact PG
   refine hK.out _ _ ⟨v321,v326,v331,v334,(by rw [ha.out];exact putSel_upk 12 hb_ rfl rfl rfl),Q_HB,Q_HO322,Q_HO327,fun h0_ _=>absurd ((hoff 20 (by kernel_rfl)).symm.trans h0_) (by decide),fun h0_=>absurd ((hoff 21 (by kernel_rfl)).symm.trans h0_) (by decide)⟩
  refine steps_cons ?_ ?_
  ·rintro b a w' ⟨v321,v326,v331,v334,ha,Q_HB,Q_HO322,Q_HO327,Q_HO332,Q_HO335⟩ hb_ hon hoff;refine ⟨_,rfl,fun K hK=>?_⟩;have e25 : a.tmps[25]? = some (.pointer (some (ad318.add 2))):=by rw [ha];exact putSel_on (e:=(18,25,.pointer (some (ad318.add 2)))) 12 rfl rfl (hon 18 (by kernel_rfl)) rfl
   replace ha:=AM ha;have HB:=AM Q_HB;have hs5_ : w'.cell? ⟨ad318.block,ad318.off + 2,none⟩ = some (.int .i64 (rd l1 2)):=(LC hw329_0);refine value_ (w1:=w') (v:=.int .i64 (rd l1 2)) (by rfl) rfl ?_ ?_
   ·exact PG
   refine hK.out _ _ ⟨v321,v326,v331,v334,(by rw [ha.out];exact putSel_upk 13 hb_ rfl rfl rfl),Q_HB,Q_HO322,Q_HO327,fun h0_ _=>absurd ((hoff 20 (by kernel_rfl)).symm.trans h0_) (by decide),fun h0_=>absurd ((hoff 21 (by kernel_rfl)).symm.trans h0_) (by decide)⟩
  refine steps_cons ?_ ?_
  ·rintro b a w' ⟨v321,v326,v331,v334,ha,Q_HB,Q_HO322,Q_HO327,Q_HO332,Q_HO335⟩ hb_ hon hoff;refine ⟨_,rfl,fun K hK=>?_⟩;have e23 : a.tmps[23]? = some (.int .i64 (rd l1 1)):=by rw [ha];exact putSel_on (e:=(16,23,.int .i64 (rd l1 1))) 11 rfl rfl (hon 16 (by kernel_rfl)) rfl
   have e26 : a.tmps[26]? = some (.int .i64 (rd l1 2)):=by rw [ha];exact putSel_on (e:=(19,26,.int .i64 (rd l1 2))) 13 rfl rfl (hon 19 (by kernel_rfl)) rfl
   replace ha:=AM ha;have HB:=AM Q_HB;refine Kd.R_lit_step (Kd.int .i64) _ 3 ?hg (N:=27) ?hd (xs:=([rd l1 1,rd l1 2] : List Int)) (inner:=[.int .i64 (rd l1 1),.int .i64 (rd l1 2)]) (ok:=fun _=>True) (okp:=fun _=>True) ?hr ?hp (fun _ hk=>hk) trivial (Below.refl _ _) (Nat.le_refl _) (by simp) ?_;(case hd=>rfl);(case hg=>rfl);(case hr=>exact GS);(case hp=>exact (Reps.one (show Kd.M (Kd.int .i64) _ _ _ (rd l1 1) [.int .i64 (rd l1 1)] from rfl) (Reps.one (show Kd.M (Kd.int .i64) _ _ _ (rd l1 2) [.int .i64 (rd l1 2)] from rfl) (Reps.none _ _))));intro v331 w7 ho8 hb hg_ hnew_;clear hg_ hnew_
   (first|rw [← Ny330.out] at ho8|(simp only [Int.reduceToNat] at ho8;rw [← Ny330.out] at ho8));have n0_:=AM (Kd.R_lower (Kd.R_newM (M:=fun k_=>(w.heap.size ≤ k_)) ho8 (BZ BB) (fun k_ h_=>h_)) (BZ BB));have n1_:=HS hb;have z_HO322:=fun (h0_ : b 6 = true) (h1_ : b 21 = false)=>(show Kd.R (Kd.int .i64) 3 w7 w.heap.size (fun k_=>(w.heap.size ≤ k_)) v321 y320 from by first|exact (Kd.R_elder' (by (with_reducible repeat (first|apply Kd.R_alloc|apply Kd.R_drewN|apply Kd.R_drew));exact (Q_HO322 h0_ h1_)) (Kd.R_base ho8) hb)|exact Kd.R_mono (Kd.R_elder' (by (with_reducible repeat (first|apply Kd.R_alloc|apply Kd.R_drewN|apply Kd.R_drew));exact (Q_HO322 h0_ h1_)) (Kd.R_base ho8) hb) (fun _ h_=>by first|trivial|exact h_|exact h_.1))
   have z_HO327:=fun (h0_ : b 13 = true) (h1_ : b 21 = false)=>(show Kd.R (Kd.int .i64) 3 w7 w.heap.size (fun k_=>(w.heap.size ≤ k_)) v326 y325 from by first|exact (Kd.R_elder' (by (with_reducible repeat (first|apply Kd.R_alloc|apply Kd.R_drewN|apply Kd.R_drew));exact (Q_HO327 h0_ h1_)) (Kd.R_base ho8) hb)|exact Kd.R_mono (Kd.R_elder' (by (with_reducible repeat (first|apply Kd.R_alloc|apply Kd.R_drewN|apply Kd.R_drew));exact (Q_HO327 h0_ h1_)) (Kd.R_base ho8) hb) (fun _ h_=>by first|trivial|exact h_|exact h_.1))
   clear HB;have HO332:=n0_;have HB:=n1_;clear n0_ n1_;clear hb ho8;refine hK.out _ _ ⟨v321,v326,v331,v334,(by rw [ha.out];exact putSel_upk 14 hb_ rfl rfl rfl),BB,z_HO322,z_HO327,fun _ _=>(by (with_reducible repeat (first|apply Kd.R_alloc|apply Kd.R_drewN|apply Kd.R_drew));exact Kd.R_mono HO332.out (fun _ hk=>hk.1)),fun h0_=>absurd ((hoff 21 (by kernel_rfl)).symm.trans h0_) (by decide)⟩
  refine steps_cons ?_ ?_
  ·rintro b a w' ⟨v321,v326,v331,v334,ha,Q_HB,Q_HO322,Q_HO327,Q_HO332,Q_HO335⟩ hb_ hon hoff;refine ⟨_,rfl,fun K hK=>?_⟩;have e13 : a.tmps[13]? = some (v321):=by rw [ha];exact putSel_on (e:=(6,13,v321)) 4 rfl rfl (hon 6 (by kernel_rfl)) rfl
   have e20 : a.tmps[20]? = some (v326):=by rw [ha];exact putSel_on (e:=(13,20,v326)) 9 rfl rfl (hon 13 (by kernel_rfl)) rfl
   have e27 : a.tmps[27]? = some (v331):=by rw [ha];exact putSel_on (e:=(20,27,v331)) 14 rfl rfl (hon 20 (by kernel_rfl)) rfl
   replace ha:=AM ha;have HB:=AM Q_HB;have HO322:=AM (Q_HO322 (hon 6 (by kernel_rfl)) hb_);have HO327:=AM (Q_HO327 (hon 13 (by kernel_rfl)) hb_);have HO332:=AM (Q_HO332 (hon 20 (by kernel_rfl)) hb_);obtain ⟨Ao14,co14,eo14⟩:=Kd.R_slice HO322.out
   (first|subst eo14|(injection eo14 with f1_ f2_ f3_;have f4_:=f1_.symm;have f5_:=f3_.symm;clear f1_ f2_ f3_;subst f4_;subst f5_));obtain ⟨Ao15,co15,eo15⟩:=Kd.R_slice HO327.out
   (first|subst eo15|(injection eo15 with f1_ f2_ f3_;have f4_:=f1_.symm;have f5_:=f3_.symm;clear f1_ f2_ f3_;subst f4_;subst f5_));obtain ⟨Ao16,co16,eo16⟩:=Kd.R_slice HO332.out
   (first|subst eo16|(injection eo16 with f1_ f2_ f3_;have f4_:=f1_.symm;have f5_:=f3_.symm;clear f1_ f2_ f3_;subst f4_;subst f5_));refine Kd.R_lit_step (Kd.slice 3 (Kd.int .i64)) w.heap.size 24 ?hg (N:=28) ?hd (xs:=([y320,y325,y330] : List (List Int))) (inner:=[.slice Ao14 y320.length co14,.slice Ao15 y325.length co15,.slice Ao16 y330.length co16]) (ok:=(fun k_=>(w.heap.size ≤ k_))) (okp:=(fun k_=>(w.heap.size ≤ k_))) ?hr ?hp (fun _ hk=>hk) ((show ∀ k_,w'.heap.size ≤ k_→(fun k_=>(w.heap.size ≤ k_)) k_ from fun k_ hk=>(Nat.le_trans (BZ BB) hk)) _ (Nat.le_refl _)) HB.out (BZ HB.out) (by simp) ?_;(case hd=>rfl);(case hg=>rfl);(case hr=>exact GS);(case hp=>exact (Reps.one ⟨_,rfl,HO322.out⟩ (Reps.one ⟨_,rfl,HO327.out⟩ (Reps.one ⟨_,rfl,HO332.out⟩ (Reps.none _ _)))));intro v334 w17 ho18 hb hg_ hnew_;clear hg_ hnew_
   (first|rw [← Ny333.out] at ho18|(simp only [Int.reduceToNat] at ho18;rw [← Ny333.out] at ho18));have HO335:=AM ho18;replace HB:=AM hb;clear HO322 HO327 HO332;clear hb ho18;obtain ⟨Ao19,co19,eo19⟩:=Kd.R_slice HO335.out
   (first|subst eo19|(injection eo19 with f1_ f2_ f3_;have f4_:=f1_.symm;have f5_:=f3_.symm;clear f1_ f2_ f3_;subst f4_;subst f5_));refine hK.out _ _ ⟨.slice Ao14 y320.length co14,.slice Ao15 y325.length co15,.slice Ao16 y330.length co16,.slice Ao19 y333.length co19,(by rw [ha.out];exact putSel_upk 15 hb_ rfl rfl rfl),BB,fun _ h1_=>absurd ((up_self b 21).symm.trans h1_) (by decide),fun _ h1_=>absurd ((up_self b 21).symm.trans h1_) (by decide),fun _ h1_=>absurd ((up_self b 21).symm.trans h1_) (by decide),fun _=>(KR HO335)⟩
  refine steps_cons ?_ ?_
  ·rintro b a w' ⟨v321,v326,v331,v334,ha,Q_HB,Q_HO322,Q_HO327,Q_HO332,Q_HO335⟩ hb_ hon hoff;refine ⟨_,rfl,fun K hK=>?_⟩;have e28 : a.tmps[28]? = some (v334):=by rw [ha];exact putSel_on (e:=(21,28,v334)) 15 rfl rfl (hon 21 (by kernel_rfl)) rfl
   replace ha:=AM ha;have HB:=AM Q_HB;have HO335:=AM (Q_HO335 (hon 21 (by kernel_rfl)));obtain ⟨Ao22_0,co22_0,eo_⟩:=Kd.R_slice HO335.out;subst eo_;refine value_ (w1:=w') (v:=.int .i64 (y333.length : Int)) (by rfl) rfl ?_ ?_
   ·exact PG
   refine hK.out _ _ ⟨v321,v326,v331,.slice Ao22_0 y333.length co22_0,(by rw [ha.out];exact putSel_upk 16 hb_ rfl rfl rfl),Q_HB,fun _ h1_=>absurd ((hon 21 (by kernel_rfl)).symm.trans h1_) (by decide),fun _ h1_=>absurd ((hon 21 (by kernel_rfl)).symm.trans h1_) (by decide),fun _ h1_=>absurd ((hon 21 (by kernel_rfl)).symm.trans h1_) (by decide),Q_HO335⟩
  exact steps_nil
 rintro b a w19 hall ⟨v321,v326,v331,v334,ha,Q_HB,Q_HO322,Q_HO327,Q_HO332,Q_HO335⟩;clear HB;have hb1_:=hall 1 (by kernel_rfl);have hb2_:=hall 2 (by kernel_rfl);have hb4_:=hall 4 (by kernel_rfl);have hb5_:=hall 5 (by kernel_rfl);have hb6_:=hall 6 (by kernel_rfl);have hb8_:=hall 8 (by kernel_rfl);have hb9_:=hall 9 (by kernel_rfl);have hb11_:=hall 11 (by kernel_rfl);have hb12_:=hall 12 (by kernel_rfl);have hb13_:=hall 13 (by kernel_rfl);have hb15_:=hall 15 (by kernel_rfl);have hb16_:=hall 16 (by kernel_rfl);have hb18_:=hall 18 (by kernel_rfl);have hb19_:=hall 19 (by kernel_rfl);have hb20_:=hall 20 (by kernel_rfl);have hb21_:=hall 21 (by kernel_rfl);have hb22_:=hall 22 (by kernel_rfl);subst ha;simp only [putSel,hb1_,hb2_,hb4_,hb5_,hb6_,hb8_,hb9_,hb11_,hb12_,hb13_,hb15_,hb16_,hb18_,hb19_,hb20_,hb21_,hb22_,if_true,Act.put,List.setIfInBounds_toArray,List.set_cons_zero,List.set_cons_succ];have HB:=AM Q_HB;clear Q_HB;clear Q_HO322;clear Q_HO327;clear Q_HO332;have HO335:=AM (Q_HO335 hb21_);clear Q_HO335;clear hall hb1_ hb2_ hb4_ hb5_ hb6_ hb8_ hb9_ hb11_ hb12_ hb13_ hb15_ hb16_ hb18_ hb19_ hb20_ hb21_ hb22_;obtain ⟨Ao20,co20,eo20⟩:=Kd.R_slice HO335.out
 (first|subst eo20|(injection eo20 with f1_ f2_ f3_;have f4_:=f1_.symm;have f5_:=f3_.symm;clear f1_ f2_ f3_;subst f4_;subst f5_));try go_wp2
 go_loopg [30] k (fun kq v30 w'=>∃ (x30_1 : Int),v30 = .int .i64 x30_1∧Aside0 (impl_firstEdge.l0 kq l0 y333 (y333.length : Int) x30_1 = some r)∧Aside0 (kq ≤ k)∧Aside0 (Kd.R (Kd.slice 3 (Kd.int .i64)) 24 w' w.heap.size (fun k_=>(w.heap.size ≤ k_)) (.slice Ao20 y333.length co20) y333)∧Aside0 (Below w.heap.size w w'))
 case atStart=>exact ⟨(0),RF,H',⟨Nat.le_refl _⟩,⟨KR HO335⟩,⟨BB⟩⟩
 case round =>
  clear H';try clear c1
  try clear p2
  try clear c3
  try clear c3b0
  try clear c3b1
  try clear p3
  try clear q3
  try clear hx3
  try clear qi3
  try clear c4
  try clear c4b0
  try clear c4b1
  try clear c5
  try clear c5b0
  try clear c5b1
  try clear p6
  try clear hx318_0
  try clear hx319_0
  try clear hx323_0
  try clear hx324_0
  try clear hx328_0
  try clear hx329_0
  try clear p318
  try clear p319
  try clear p323
  try clear p324
  try clear p328
  try clear p329
  try clear q318
  try clear q319
  try clear q323
  try clear q324
  try clear q328
  try clear q329
  obtain ⟨x30_1,rfl,HA,HK1,HO_28,HB⟩:=hrel;cases gk with
  | zero=>exact absurd HA.out (by simp [impl_firstEdge.l0])
  | succ k1 =>
   have H:=HA.out;clear HA;simp only [impl_firstEdge.l0] at H;by_cases c21 : x30_1 < (y333.length : Int)
   ·rw [if_pos c21] at H;have c21b0:=DT c21;clear c21;replace H:=IC H;obtain ⟨c22,H⟩:=H;have c22b0:=DT c22;clear c22;replace H:=IC H;obtain ⟨c23,H⟩:=H;have c23b0:=DT c23;clear c23;replace H:=IC H;obtain ⟨c24,H⟩:=H;have c24b0:=DT c24;have c24b1 : decide (0 < (rd_L2 y333 x30_1).length) = true:=DT (by omega);clear c24;replace H:=IC H;obtain ⟨c25,H⟩:=H;have c25b0:=DT c25;clear c25;replace H:=IC H;obtain ⟨c26,H⟩:=H;have c26b0:=DT c26;clear c26;replace H:=IC H;obtain ⟨c27,H⟩:=H;have c27b0:=DT c27;have c27b1 : decide (1 < (rd_L2 y333 x30_1).length) = true:=DT (by omega);clear c27;replace H:=IC H;obtain ⟨c28,H⟩:=H;have c28b0:=DT c28;clear c28;replace H:=IC H;obtain ⟨c29,H⟩:=H;have c29b0:=DT c29;clear c29;by_cases c30 : (wrap64 ((rd l0 (rd (rd_L2 y333 x30_1) 0)) + (rd l0 (rd (rd_L2 y333 x30_1) 1)))) = 0
    ·rw [if_pos c30] at H;have c30b0:=QT c30;have c30b1:=bne_eq_false_iff_eq.mpr c30;clear c30;obtain rfl:=Option.some.inj H;have p336 : 0 ≤ (x30_1 : Int):=OD AS;have q336 : x30_1 < (y333.length : Int):=OD AS;obtain ⟨ad336,A336_0,c336_0,e336,hx336_0,hl336_0,hi336_0⟩:=at_L2 (Kd.R_reads' HO_28.out).2.2 x30_1 p336 q336;cases e336;obtain ⟨ce336,hce336,hMe336,hcc336⟩:=Kd.R_get HO_28.out [] x30_1 p336 (by first|exact q336|exact OD AS|(have e_:=(Kd.R_reads' HO_28.out).1;omega));obtain ⟨ve336,rfl,ge336_0⟩:=hMe336;obtain ⟨ua336_0,uc336_0,rfl⟩:=Kd.R_slice ge336_0;have hv336_0:=hcc336 0 _ rfl;rw [Nat.add_zero,show ((Kd.slice 3 (Kd.int .i64))).sz = 1 from rfl,Nat.mul_one] at hv336_0;replace hv336_0:=Option.some.inj (hv336_0.symm.trans hx336_0);injection hv336_0 with hva_ hvn_ hvc_
     rw [hva_,hvc_] at ge336_0;have HL336_0:=AM (show Kd.R (Kd.int .i64) 3 _ w.heap.size _ _ (rd_L2 y333 x30_1) from ge336_0);clear hva_ hvn_ hvc_ ge336_0;clear hcc336 hce336;have HR336_0:=AM hi336_0;have HC336_0:=AM hl336_0;clear hi336_0 hl336_0;replace p336:=ET p336;replace q336:=ET q336;try go_wp2
     replace HO_28:=AM (Kd.R_drew HO_28.out);replace HL336_0:=AM (Kd.R_drew HL336_0.out);replace HR336_0:=AM (Kd.C_drew HR336_0.out);replace HB:=AM (below_drew1 HB.out);have p337 : 0 ≤ (0 : Int):=(by omega);have q337 : 0 < ((rd_L2 y333 x30_1).length : Int):=OD AS;obtain ⟨ad337,e337,hx337_0⟩:=Kd.at_int (CX HR336_0) 0 p337 q337;cases e337;have qi337 : (0 < (rd_L2 y333 x30_1).length) = True:=ET (by omega)
     (try rw [show ((0 : Int)).toNat = 0 from rfl] at hx337_0)
     (try rw [Addr.add_zero'] at hx337_0);replace p337:=ET p337;replace q337:=ET q337;have p338 : 0 ≤ ((rd (rd_L2 y333 x30_1) 0) : Int):=OD AS;have q338 : (rd (rd_L2 y333 x30_1) 0) < (l0.length : Int):=OD AS;obtain ⟨ad338,e338,hx338_0⟩:=Kd.at_int HR0.out (rd (rd_L2 y333 x30_1) 0) p338 q338;have hw338_0:=hx338_0;cases e338;try (replace hx338_0:=LC hx338_0)
     replace p338:=ET p338;replace q338:=ET q338;have p339 : 0 ≤ (1 : Int):=(by omega);have q339 : 1 < ((rd_L2 y333 x30_1).length : Int):=OD AS;obtain ⟨ad339,e339,hx339_0⟩:=Kd.at_int (CX HR336_0) 1 p339 q339;obtain rfl : ad337 = ad339:=(by injection e339)
     (try simp only [show (1 : Int).toNat = 1 from rfl,Nat.reduceMul,Nat.reduceEqDiff,Go.Addr.add,↓reduceIte] at hx339_0);have qi339 : (1 < (rd_L2 y333 x30_1).length) = True:=ET (by omega)
     (try rw [show ((1 : Int)).toNat = 1 from rfl] at hx339_0);replace p339:=ET p339;replace q339:=ET q339;have p340 : 0 ≤ ((rd (rd_L2 y333 x30_1) 1) : Int):=OD AS;have q340 : (rd (rd_L2 y333 x30_1) 1) < (l0.length : Int):=OD AS;obtain ⟨ad340,e340,hx340_0⟩:=Kd.at_int HR0.out (rd (rd_L2 y333 x30_1) 1) p340 q340;have hw340_0:=hx340_0;obtain rfl : ad338 = ad340:=(by injection e340);try (replace hx340_0:=LC hx340_0)
     replace p340:=ET p340;replace q340:=ET q340;refine PSt (n:=14) (S:=fun w'=>w'.cell? ad337 = some (.int .i64 (rd (rd_L2 y333 x30_1) 0))∧w'.cell? (ad338.add ((rd (rd_L2 y333 x30_1) 0)).toNat) = some (.int .i64 (rd l0 (rd (rd_L2 y333 x30_1) 0)))∧w'.cell? ⟨ad337.block,ad337.off + 1,none⟩ = some (.int .i64 (rd (rd_L2 y333 x30_1) 1))∧w'.cell? (ad338.add ((rd (rd_L2 y333 x30_1) 1)).toNat) = some (.int .i64 (rd l0 (rd (rd_L2 y333 x30_1) 1)))) (ds:=[]) ⟨hx337_0,LC hw338_0,hx339_0,LC hw340_0⟩ (fun hHeld=>?_);refine with_tabW impl_firstEdge.tab4 impl_firstEdge.bits4 (fun HT_ HW_=>?_);generalize wr.drew = w31 at HO_28 HL336_0 HR336_0 HB hx337_0 hx338_0 hx339_0 hx340_0 hHeld ⊢;refine PA 0 34 HT_ ?_;refine PA 1 35 HT_ ?_;refine PA 2 36 HT_ ?_;refine PA 6 40 HT_ ?_;refine PA 7 41 HT_ ?_;refine PA 8 42 HT_ ?_;refine PB 3 37 HT_ HW_ hHeld ?_;refine PA 4 38 HT_ ?_;refine PB 5 39 HT_ HW_ hHeld ?_;refine PB 9 43 HT_ HW_ hHeld ?_;refine PA 10 44 HT_ ?_;refine PB 11 45 HT_ HW_ hHeld ?_;refine PA 12 46 HT_ ?_;refine PA 13 47 HT_ ?_;refine done_ (done_of HT_.out (by kernel_rfl)) ?_;try go_wp2
     go_ret;exact ⟨_,RE,by (with_reducible repeat (first|apply Kd.R_alloc|apply Kd.R_drewN|apply Kd.R_drew));exact Kd.R_mono HL336_0.out (fun _ hk=>hk.1),BB⟩
    ·rw [if_neg c30] at H;have c30b0:=beq_eq_false_iff_ne.mpr c30;have c30b1:=bne_iff_ne.mpr c30;have H':=AM H;clear H;have p336 : 0 ≤ (x30_1 : Int):=OD AS;have q336 : x30_1 < (y333.length : Int):=OD AS;obtain ⟨ad336,A336_0,c336_0,e336,hx336_0,hl336_0,hi336_0⟩:=at_L2 (Kd.R_reads' HO_28.out).2.2 x30_1 p336 q336;cases e336;obtain ⟨ce336,hce336,hMe336,hcc336⟩:=Kd.R_get HO_28.out [] x30_1 p336 (by first|exact q336|exact OD AS|(have e_:=(Kd.R_reads' HO_28.out).1;omega));obtain ⟨ve336,rfl,ge336_0⟩:=hMe336;obtain ⟨ua336_0,uc336_0,rfl⟩:=Kd.R_slice ge336_0;have hv336_0:=hcc336 0 _ rfl;rw [Nat.add_zero,show ((Kd.slice 3 (Kd.int .i64))).sz = 1 from rfl,Nat.mul_one] at hv336_0;replace hv336_0:=Option.some.inj (hv336_0.symm.trans hx336_0);injection hv336_0 with hva_ hvn_ hvc_
     rw [hva_,hvc_] at ge336_0;have HL336_0:=AM (show Kd.R (Kd.int .i64) 3 _ w.heap.size _ _ (rd_L2 y333 x30_1) from ge336_0);clear hva_ hvn_ hvc_ ge336_0;clear hcc336 hce336;have HR336_0:=AM hi336_0;have HC336_0:=AM hl336_0;clear hi336_0 hl336_0;replace p336:=ET p336;replace q336:=ET q336;try go_wp2
     replace HO_28:=AM (Kd.R_drew HO_28.out);replace HL336_0:=AM (Kd.R_drew HL336_0.out);replace HR336_0:=AM (Kd.C_drew HR336_0.out);replace HB:=AM (below_drew1 HB.out);have p337 : 0 ≤ (0 : Int):=(by omega);have q337 : 0 < ((rd_L2 y333 x30_1).length : Int):=OD AS;obtain ⟨ad337,e337,hx337_0⟩:=Kd.at_int (CX HR336_0) 0 p337 q337;cases e337;have qi337 : (0 < (rd_L2 y333 x30_1).length) = True:=ET (by omega)
     (try rw [show ((0 : Int)).toNat = 0 from rfl] at hx337_0)
     (try rw [Addr.add_zero'] at hx337_0);replace p337:=ET p337;replace q337:=ET q337;have p338 : 0 ≤ ((rd (rd_L2 y333 x30_1) 0) : Int):=OD AS;have q338 : (rd (rd_L2 y333 x30_1) 0) < (l0.length : Int):=OD AS;obtain ⟨ad338,e338,hx338_0⟩:=Kd.at_int HR0.out (rd (rd_L2 y333 x30_1) 0) p338 q338;have hw338_0:=hx338_0;cases e338;try (replace hx338_0:=LC hx338_0)
     replace p338:=ET p338;replace q338:=ET q338;have p339 : 0 ≤ (1 : Int):=(by omega);have q339 : 1 < ((rd_L2 y333 x30_1).length : Int):=OD AS;obtain ⟨ad339,e339,hx339_0⟩:=Kd.at_int (CX HR336_0) 1 p339 q339;obtain rfl : ad337 = ad339:=(by injection e339)
     (try simp only [show (1 : Int).toNat = 1 from rfl,Nat.reduceMul,Nat.reduceEqDiff,Go.Addr.add,↓reduceIte] at hx339_0);have qi339 : (1 < (rd_L2 y333 x30_1).length) = True:=ET (by omega)
     (try rw [show ((1 : Int)).toNat = 1 from rfl] at hx339_0);replace p339:=ET p339;replace q339:=ET q339;have p340 : 0 ≤ ((rd (rd_L2 y333 x30_1) 1) : Int):=OD AS;have q340 : (rd (rd_L2 y333 x30_1) 1) < (l0.length : Int):=OD AS;obtain ⟨ad340,e340,hx340_0⟩:=Kd.at_int HR0.out (rd (rd_L2 y333 x30_1) 1) p340 q340;have hw340_0:=hx340_0;obtain rfl : ad338 = ad340:=(by injection e340);try (replace hx340_0:=LC hx340_0)
     replace p340:=ET p340;replace q340:=ET q340;refine PSt (n:=14) (S:=fun w'=>w'.cell? ad337 = some (.int .i64 (rd (rd_L2 y333 x30_1) 0))∧w'.cell? (ad338.add ((rd (rd_L2 y333 x30_1) 0)).toNat) = some (.int .i64 (rd l0 (rd (rd_L2 y333 x30_1) 0)))∧w'.cell? ⟨ad337.block,ad337.off + 1,none⟩ = some (.int .i64 (rd (rd_L2 y333 x30_1) 1))∧w'.cell? (ad338.add ((rd (rd_L2 y333 x30_1) 1)).toNat) = some (.int .i64 (rd l0 (rd (rd_L2 y333 x30_1) 1)))) (ds:=[]) ⟨hx337_0,LC hw338_0,hx339_0,LC hw340_0⟩ (fun hHeld=>?_);refine with_tabW impl_firstEdge.tab4 impl_firstEdge.bits4 (fun HT_ HW_=>?_);generalize wr.drew = w32 at HO_28 HL336_0 HR336_0 HB hx337_0 hx338_0 hx339_0 hx340_0 hHeld ⊢;refine PA 0 34 HT_ ?_;refine PA 1 35 HT_ ?_;refine PA 2 36 HT_ ?_;refine PA 6 40 HT_ ?_;refine PA 7 41 HT_ ?_;refine PA 8 42 HT_ ?_;refine PB 3 37 HT_ HW_ hHeld ?_;refine PA 4 38 HT_ ?_;refine PB 5 39 HT_ HW_ hHeld ?_;refine PB 9 43 HT_ HW_ hHeld ?_;refine PA 10 44 HT_ ?_;refine PB 11 45 HT_ HW_ hHeld ?_;refine PA 12 46 HT_ ?_;refine PA 13 47 HT_ ?_;refine done_ (done_of HT_.out (by kernel_rfl)) ?_;try go_wp2
     go_roundg k1
     case measure=>have:=HK1.out;omega
     case rel=>exact ⟨(wrap64 (x30_1 + 1)),RF,H',⟨by have:=HK1.out;omega⟩,⟨KR HO_28⟩,⟨BB⟩⟩
   ·rw [if_neg c21] at H;have c21b0:=DF c21;clear c21;obtain rfl:=Option.some.inj H;go_wp2;go_ret;exact ⟨_,RE,Kd.R_nil _ _ _ _ _,BB⟩

end Go.Proofs.Ytlolkkfpfjlhmaa.PFnOppositeEdgesFound
