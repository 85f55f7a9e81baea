-- Written by a program of this session (wip/tools/pp.sh) out of the translation; Lean checks it.
import Derived.Test.YthaonijhfeemfaaPFnWalksEndFullx1
namespace Go.Proofs.Ythaonijhfeemfaa.dL
open Go.RowKit Go.Proofs.YthaonijhfeemfaaOwn Go.Proofs.YthaonijhfeemfaaW.bU Go.Proofs.YthaonijhfeemfaaW.fB Go.Proofs.YthaonijhfeemfaaW.iw
attribute [local go_sem] nG nH nK nL nD nE nI nJ   -- for this text's walks alone
set_option linter.unusedVariables false
set_option maxHeartbeats 8000000
set_option maxRecDepth 100000
set_option linter.unusedSimpArgs false

def aD (w0 W : World) (g : Nat) (f0 : List Int) (f1 : Int) (f2 : Int) : Prop:=∃ A0 c0,W.heap[g]? = some (.cells #[.slice A0 f0.length c0,.int .i64 f1,.int .u64 f2] 69 (0,0))∧w0.heap.size ≤ g∧Kd.C (Kd.int .u8) w0 A0 f0.length f0
theorem aD.grown {w0 W : World} {g : Nat} {f0 : List Int} {f1 : Int} {f2 : Int} {W1 : World} {row : Option Nat} (h : aD w0 W g f0 f1 f2) (hw : W.grownBy W1 row) (hne : some g≠row) : aD w0 W1 g f0 f1 f2:=by
 obtain ⟨A0,c0,hb,hg,hr0⟩:=h;exact ⟨A0,c0,H9 hb hw hne,hg,hr0⟩
theorem aD.aAR {w0 W : World} {g : Nat} {f0 : List Int} {f1 : Int} {f2 : Int} {α : Type} {d : Kd α} {e : Nat} {base : Nat} {ok : Nat→Prop} {v : Value} {xs : List α} (h : aD w0 W g f0 f1 f2) (ho : Kd.N d e W base ok v xs) (ht : e≠69) : some g≠v.ownBlock:=by
 obtain ⟨A0,c0,hb,hg,hr0⟩:=h;exact Kd.amg ho hb ht
theorem aD.fresh {w0 W : World} {g : Nat} {f0 : List Int} {f1 : Int} {f2 : Int} (h : aD w0 W g f0 f1 f2) : ∀ k,W.heap.size ≤ k→k≠g:=by
 obtain ⟨A0,c0,hb,hg,hr0⟩:=h;exact Kd.xw hb
theorem aD.kept {w0 W : World} {g : Nat} {f0 : List Int} {f1 : Int} {f2 : Int} {W1 : World} {S : Nat→Prop} (h : aD w0 W g f0 f1 f2) (hk : Kept W W1 S) (hne : ¬ S g) : aD w0 W1 g f0 f1 f2:=by
 obtain ⟨A0,c0,hb,hg,hr0⟩:=h;exact ⟨A0,c0,aoZ hb hk hne,hg,hr0⟩
theorem aD.below {w0 W : World} {g : Nat} {f0 : List Int} {f1 : Int} {f2 : Int} {W1 : World} (h : aD w0 W g f0 f1 f2) (hw : Below W.heap.size W W1) : aD w0 W1 g f0 f1 f2:=h.grown (agM hw none) (by simp)
theorem aD.alloc {w0 W : World} {g : Nat} {f0 : List Int} {f1 : Int} {f2 : Int} (h : aD w0 W g f0 f1 f2) (o : Obj) : aD w0 (W.alloc o) g f0 f1 f2:=h.below (jE (Below.refl _ _) o)
theorem aD.drewN {w0 W : World} {g : Nat} {f0 : List Int} {f1 : Int} {f2 : Int} (h : aD w0 W g f0 f1 f2) (m : Nat) : aD w0 (W.drewN m) g f0 f1 f2:=h
theorem aD.drew {w0 W : World} {g : Nat} {f0 : List Int} {f1 : Int} {f2 : Int} (h : aD w0 W g f0 f1 f2) : aD w0 W.drew g f0 f1 f2:=h
theorem aD.at_ {w0 W : World} {g : Nat} {f0 : List Int} {f1 : Int} {f2 : Int} {w' : World} {m : Nat} (hq : W.drewN m = w') (h : aD w0 W g f0 f1 f2) : aD w0 w' g f0 f1 f2:=by subst hq;exact aD.drewN h m
theorem aD.apart {w0 W : World} {g : Nat} {f0 : List Int} {f1 : Int} {f2 : Int} {α : Type} {d : Kd α} {e : Nat} {base : Nat} {ok : Nat→Prop} {v : Value} {xs : List α} (h : aD w0 W g f0 f1 f2) (ho : d.R e W base ok v xs) (ht : ∀ q,q ∈ e :: d.E→q≠69) : d.R e W base (fun k=>ok k∧k≠g) v xs:=by
 obtain ⟨A0,c0,hb,hg,hr0⟩:=h;exact Kd.nM ho hb ht
theorem aD.own_ne {w0 W : World} {g : Nat} {f0 : List Int} {f1 : Int} {f2 : Int} {α : Type} {d : Kd α} {e : Nat} {base : Nat} {ok : Nat→Prop} {v : Value} {xs : List α} (h : aD w0 W g f0 f1 f2) (ho : d.R e W base ok v xs) (ht : e≠69) : some g≠v.ownBlock:=by
 obtain ⟨A0,c0,hb,hg,hr0⟩:=h;exact Kd.OJ ho hb ht
theorem aD.aBt {w0 W : World} {g : Nat} {f0 : List Int} {f1 : Int} {f2 : Int} {α : Type} {d : Kd α} {e : Nat} {base : Nat} {ok : Nat→Prop} {v : Value} {xs : List α} (h : aD w0 W g f0 f1 f2) (ho : d.Q e W base ok v xs) (ht : ∀ q,q ∈ e :: d.E→q≠69) : d.Q e W base (fun k=>ok k∧k≠g) v xs:=by
 obtain ⟨A0,c0,hb,hg,hr0⟩:=h;exact Kd.aqp ho hb ht
theorem aD.aAS {w0 W : World} {g : Nat} {f0 : List Int} {f1 : Int} {f2 : Int} {α : Type} {d : Kd α} {e : Nat} {base : Nat} {ok : Nat→Prop} {v : Value} {xs : List α} (h : aD w0 W g f0 f1 f2) (ho : d.Q e W base ok v xs) (ht : e≠69) : some g≠v.ownBlock:=by
 obtain ⟨A0,c0,hb,hg,hr0⟩:=h;exact Kd.axR ho hb ht
theorem aD.vZ {w0 W : World} {g : Nat} {f0 : List Int} {f1 : Int} {f2 : Int} {α : Type} {d : Kd α} {e : Nat} {base : Nat} {ok : Nat→Prop} {v : Value} {xs : List α} (h : aD w0 W g f0 f1 f2) (ho : d.S e W base ok v xs) (ht : ∀ q,q ∈ e :: d.E→q≠69) : d.S e W base (fun k=>ok k∧k≠g) v xs:=by
 obtain ⟨A0,c0,hb,hg,hr0⟩:=h;exact Kd.tX ho hb ht
theorem aD.aAT {w0 W : World} {g : Nat} {f0 : List Int} {f1 : Int} {f2 : Int} {α : Type} {d : Kd α} {e : Nat} {base : Nat} {ok : Nat→Prop} {v : Value} {xs : List α} (h : aD w0 W g f0 f1 f2) (ho : d.S e W base ok v xs) (ht : e≠69) : some g≠v.ownBlock:=by
 obtain ⟨A0,c0,hb,hg,hr0⟩:=h;exact Kd.afg ho hb ht
theorem aD.lt {w0 W : World} {g : Nat} {f0 : List Int} {f1 : Int} {f2 : Int} (h : aD w0 W g f0 f1 f2) : g < W.heap.size:=by
 obtain ⟨A0,c0,hb,hg,hr0⟩:=h;exact jH hb
theorem aD.ge {w0 W : World} {g : Nat} {f0 : List Int} {f1 : Int} {f2 : Int} (h : aD w0 W g f0 f1 f2) : w0.heap.size ≤ g:=by
 obtain ⟨A0,c0,hb,hg,hr0⟩:=h;exact hg
theorem aD.aBu {w0 W : World} {g : Nat} {f0 : List Int} {f1 : Int} {f2 : Int} {a : Nat} {cs : Array Value} {t : TypeId} {fr : Nat × Nat} (h : aD w0 W g f0 f1 f2) (hb2 : W.heap[a]? = some (.cells cs t fr)) (ht : t≠69) : g≠a:=by
 obtain ⟨A0,c0,hb,hg,hr0⟩:=h;rintro rfl;rw [hb] at hb2;injection hb2 with hb2
 injection hb2 with _ ht2
 exact ht ht2.symm
theorem aD.far {w0 W : World} {g : Nat} {f0 : List Int} {f1 : Int} {f2 : Int} {p : Addr} (h : aD w0 W g f0 f1 f2) (hne : g≠p.block) (u : Value) : aD w0 (W.setCell p u) g f0 f1 f2:=by
 obtain ⟨A0,c0,hb,hg,hr0⟩:=h;exact ⟨A0,c0,aiM hb hne u,hg,hr0⟩
theorem Vm {W : World} {g : Nat} {A0 : Option Addr} {c0 : Nat} {f0 : List Int} {f1 : Int} {f2 : Int} (h : W.heap[g]? = some (.cells #[.slice A0 f0.length c0,.int .i64 f1,.int .u64 f2] 69 (0,0))) : W.cell? ⟨g,0,none⟩ = some (.slice A0 f0.length c0):=(BC h 0).trans rfl
theorem Vn {W : World} {g : Nat} {A0 : Option Addr} {c0 : Nat} {f0 : List Int} {f1 : Int} {f2 : Int} (h : W.heap[g]? = some (.cells #[.slice A0 f0.length c0,.int .i64 f1,.int .u64 f2] 69 (0,0))) : W.cell? ⟨g,1,none⟩ = some (.int .i64 f1):=(BC h 1).trans rfl
theorem aD.acD {w0 W : World} {g : Nat} {f0 : List Int} {f1 : Int} {f2 : Int} (h : aD w0 W g f0 f1 f2) (x : Int) : aD w0 (W.setCell ⟨g,1,none⟩ (.int .i64 x)) g f0 x f2:=by
 obtain ⟨A0,c0,hb,hg,hr0⟩:=h;exact ⟨A0,c0,by simpa using Ia hb 1 (.int .i64 x),hg,hr0⟩
theorem Vo {W : World} {g : Nat} {A0 : Option Addr} {c0 : Nat} {f0 : List Int} {f1 : Int} {f2 : Int} (h : W.heap[g]? = some (.cells #[.slice A0 f0.length c0,.int .i64 f1,.int .u64 f2] 69 (0,0))) : W.cell? ⟨g,2,none⟩ = some (.int .u64 f2):=(BC h 2).trans rfl
theorem aD.acE {w0 W : World} {g : Nat} {f0 : List Int} {f1 : Int} {f2 : Int} (h : aD w0 W g f0 f1 f2) (x : Int) : aD w0 (W.setCell ⟨g,2,none⟩ (.int .u64 x)) g f0 f1 x:=by
 obtain ⟨A0,c0,hb,hg,hr0⟩:=h;exact ⟨A0,c0,by simpa using Ia hb 2 (.int .u64 x),hg,hr0⟩
theorem aD.new (w0 W : World) (A0 : Option Addr) (c0 : Nat) (f0 : List Int) (f1 : Int) (f2 : Int) (hB : Below w0.heap.size w0 W) (hr0 : Kd.C (Kd.int .u8) w0 A0 f0.length f0) : aD w0 (W.alloc (.cells #[.slice A0 f0.length c0,.int .i64 f1,.int .u64 f2] 69)) W.heap.size f0 f1 f2:=⟨A0,c0,by simpa using heap_alloc_new W _,hB.size,hr0⟩
theorem AHB {p : Prop} (h : p:=by repeat (first|(with_reducible first|exact HB.out|apply jE|apply kr|apply fA|refine eF ?_ (aD.ge HI0.out))|exact HB.out)) : p:=h
theorem AHI {p : Prop} (h : p:=by repeat (first|(with_reducible first|exact HI0.out|apply aD.alloc|apply aD.drewN|apply aD.drew|apply aD.acD|apply aD.acE)|exact HI0.out)) : p:=h

def yX.f (aG : List Int) (bK : Int) (cZ : Int) : Option (Int × Int × Int):=if bK < (aG.length : Int) then (if 0 ≤ bK then (if (wrap64 (bK + 1)) ≤ (aG.length : Int) then (some (wrap64 (rd aG bK),wrap64 (bK + 1),IntKind.u64.wrap ((IntKind.u64.wrap ((IntKind.u64.wrap (cZ * 6364136223846793005)) + (IntKind.u64.wrap (wrap64 (rd aG bK))))) + 1442695040888963407))) else (some (wrap64 (Go.bits .and .u64 ((IntKind.u64.wrap ((IntKind.u64.wrap ((IntKind.u64.wrap (cZ * 6364136223846793005)) + (IntKind.u64.wrap (wrap64 (rd aG bK))))) + 1442695040888963407)) / 1099511627776) 255),wrap64 (bK + 1),IntKind.u64.wrap ((IntKind.u64.wrap ((IntKind.u64.wrap (cZ * 6364136223846793005)) + (IntKind.u64.wrap (wrap64 (rd aG bK))))) + 1442695040888963407)))) else (none)) else (if (wrap64 (bK + 1)) ≤ (aG.length : Int) then (some (0,wrap64 (bK + 1),IntKind.u64.wrap ((IntKind.u64.wrap ((IntKind.u64.wrap (cZ * 6364136223846793005)) + 0)) + 1442695040888963407))) else (some (wrap64 (Go.bits .and .u64 ((IntKind.u64.wrap ((IntKind.u64.wrap ((IntKind.u64.wrap (cZ * 6364136223846793005)) + 0)) + 1442695040888963407)) / 1099511627776) 255),wrap64 (bK + 1),IntKind.u64.wrap ((IntKind.u64.wrap ((IntKind.u64.wrap (cZ * 6364136223846793005)) + 0)) + 1442695040888963407))))
theorem yX.calls (g : Nat) (aG : List Int) (bK : Int) (cZ : Int) (r1 : Int) (r2 : Int) (r3 : Int) (w0 w : World) (hI : aD w0 w g aG bK cZ) (hB : Below w0.heap.size w0 w) (h : yX.f aG bK cZ = some (r1,r2,r3)) :
  Calls Try.prog 91 #[.pointer (some ⟨g,0,none⟩)] w fun e w'=>e = .returned (.int .i64 r1)∧aD w0 w' g aG r2 r3∧Below w0.heap.size w0 w'∧bR w w' g none:=by
 have HI0:=AM hI;have HK:=AM (bR.refl w g none);have HL:=AM hB.size;clear hI;have HW0:=AM hB.size;have HB:=AM hB;clear hB;have H : (if bK < (aG.length : Int) then (if 0 ≤ bK then (if (wrap64 (bK + 1)) ≤ (aG.length : Int) then (some (wrap64 (rd aG bK),wrap64 (bK + 1),IntKind.u64.wrap ((IntKind.u64.wrap ((IntKind.u64.wrap (cZ * 6364136223846793005)) + (IntKind.u64.wrap (wrap64 (rd aG bK))))) + 1442695040888963407))) else (some (wrap64 (Go.bits .and .u64 ((IntKind.u64.wrap ((IntKind.u64.wrap ((IntKind.u64.wrap (cZ * 6364136223846793005)) + (IntKind.u64.wrap (wrap64 (rd aG bK))))) + 1442695040888963407)) / 1099511627776) 255),wrap64 (bK + 1),IntKind.u64.wrap ((IntKind.u64.wrap ((IntKind.u64.wrap (cZ * 6364136223846793005)) + (IntKind.u64.wrap (wrap64 (rd aG bK))))) + 1442695040888963407)))) else (none)) else (if (wrap64 (bK + 1)) ≤ (aG.length : Int) then (some (0,wrap64 (bK + 1),IntKind.u64.wrap ((IntKind.u64.wrap ((IntKind.u64.wrap (cZ * 6364136223846793005)) + 0)) + 1442695040888963407))) else (some (wrap64 (Go.bits .and .u64 ((IntKind.u64.wrap ((IntKind.u64.wrap ((IntKind.u64.wrap (cZ * 6364136223846793005)) + 0)) + 1442695040888963407)) / 1099511627776) 255),wrap64 (bK + 1),IntKind.u64.wrap ((IntKind.u64.wrap ((IntKind.u64.wrap (cZ * 6364136223846793005)) + 0)) + 1442695040888963407))))) = some (r1,r2,r3):=h;clear h;by_cases c2 : bK < (aG.length : Int)
 ·rw [if_pos c2] at H;have Tm:=DT c2;clear c2;replace H:=IC H;obtain ⟨c3,H⟩:=H;have iQ:=DT c3;clear c3;by_cases c4 : (wrap64 (bK + 1)) ≤ (aG.length : Int)
  ·rw [if_pos c4] at H;have iR:=DT c4;clear c4;simp only [Option.some.injEq,Prod.mk.injEq] at H;obtain ⟨rfl,rfl,rfl⟩:=H;obtain ⟨aBv,aBw,OT,axS,ar2⟩:=HI0.out;have Wd:=Vm OT;have Wh:=Vn OT;have Wi:=Vo OT;have Wj:=BF OT 1;have Wm:=BF OT 2;clear OT axS;have Lh : 0 ≤ (bK : Int):=OD AS;have Li : bK < (aG.length : Int):=OD AS;obtain ⟨auv,afh,Qv⟩:=Kd.aN ar2 bK Lh Li;cases afh;replace Qv:=Pq HB.out Qv;replace Lh:=ET Lh;replace Li:=ET Li;go_enter Try.func91,Try.ntmps91;go_wp2;repeat (go_quiet (fail);try go_wp2)
   go_ret;exact ⟨RE,by (try simp only [show IntKind.u64.wrap 0 = 0 from rfl,Int.add_zero]);exact AHI,AHB,AHK⟩
  ·rw [if_neg c4] at H;have iR:=DF c4;clear c4;simp only [Option.some.injEq,Prod.mk.injEq] at H;obtain ⟨rfl,rfl,rfl⟩:=H;obtain ⟨aBx,aBy,OU,axT,ar3⟩:=HI0.out;have ajA:=Vm OU;have ajB:=Vn OU;have ajC:=Vo OU;have ajD:=BF OU 1;have ajE:=BF OU 2;clear OU axT;have Lh : 0 ≤ (bK : Int):=OD AS;have Li : bK < (aG.length : Int):=OD AS;obtain ⟨auv,afh,Qv⟩:=Kd.aN ar3 bK Lh Li;cases afh;replace Qv:=Pq HB.out Qv;replace Lh:=ET Lh;replace Li:=ET Li;go_enter Try.func91,Try.ntmps91;go_wp2;repeat (go_quiet (fail);try go_wp2)
   go_ret;exact ⟨RE,by (try simp only [show IntKind.u64.wrap 0 = 0 from rfl,Int.add_zero]);exact AHI,AHB,AHK⟩
 ·rw [if_neg c2] at H;have Tm:=DF c2;clear c2;by_cases c7 : (wrap64 (bK + 1)) ≤ (aG.length : Int)
  ·rw [if_pos c7] at H;have kS:=DT c7;clear c7;simp only [Option.some.injEq,Prod.mk.injEq] at H;obtain ⟨rfl,rfl,rfl⟩:=H;obtain ⟨aBz,aBA,OV,axU,aBB⟩:=HI0.out;have V5:=Vm OV;have V6:=Vn OV;have V7:=Vo OV;have V8:=BF OV 1;have V9:=BF OV 2;clear OV axU;go_enter Try.func91,Try.ntmps91;go_wp2;repeat (go_quiet (fail);try go_wp2)
   go_ret;exact ⟨RE,by (try simp only [show IntKind.u64.wrap 0 = 0 from rfl,Int.add_zero]);exact AHI,AHB,AHK⟩
  ·rw [if_neg c7] at H;have kS:=DF c7;clear c7;simp only [Option.some.injEq,Prod.mk.injEq] at H;obtain ⟨rfl,rfl,rfl⟩:=H;obtain ⟨aBC,aBD,OW,axV,aBE⟩:=HI0.out;have Ro:=Vm OW;have Rp:=Vn OW;have Rq:=Vo OW;have Rs:=BF OW 1;have Rt:=BF OW 2;clear OW axV;go_enter Try.func91,Try.ntmps91;go_wp2;repeat (go_quiet (fail);try go_wp2)
   go_ret;exact ⟨RE,by (try simp only [show IntKind.u64.wrap 0 = 0 from rfl,Int.add_zero]);exact AHI,AHB,AHK⟩

def fQ.f (aG : List Int) (bK : Int) (cZ : Int) (a1 : Int) : Option (Int × Int × Int):=if a1 ≤ 1 then (some (0,bK,cZ)) else ((yX.f aG bK cZ).bind fun yK=>(if a1 > 200 then ((yX.f aG yK.2.1 yK.2.2).bind fun JE=>(if a1 = 0 then (none) else (some (Int.tmod (wrap64 ((wrap64 (yK.1 * 256)) + JE.1)) a1,JE.2.1,JE.2.2)))) else (if a1 = 0 then (none) else (some (Int.tmod yK.1 a1,yK.2.1,yK.2.2)))))
theorem fQ.calls (g : Nat) (aG : List Int) (bK : Int) (cZ : Int) (a1 : Int) (r1 : Int) (r2 : Int) (r3 : Int) (w0 w : World) (hI : aD w0 w g aG bK cZ) (hB : Below w0.heap.size w0 w) (h : fQ.f aG bK cZ a1 = some (r1,r2,r3)) :
  Calls Try.prog 77 #[.pointer (some ⟨g,0,none⟩),.int .i64 a1] w fun e w'=>e = .returned (.int .i64 r1)∧aD w0 w' g aG r2 r3∧Below w0.heap.size w0 w'∧bR w w' g none:=by
 have HI0:=AM hI;have HK:=AM (bR.refl w g none);have HL:=AM hB.size;clear hI;have HW0:=AM hB.size;have HB:=AM hB;clear hB;have H : (if a1 ≤ 1 then (some (0,bK,cZ)) else ((yX.f aG bK cZ).bind fun yK=>(if a1 > 200 then ((yX.f aG yK.2.1 yK.2.2).bind fun JE=>(if a1 = 0 then (none) else (some (Int.tmod (wrap64 ((wrap64 (yK.1 * 256)) + JE.1)) a1,JE.2.1,JE.2.2)))) else (if a1 = 0 then (none) else (some (Int.tmod yK.1 a1,yK.2.1,yK.2.2)))))) = some (r1,r2,r3):=h;clear h;by_cases c3 : a1 ≤ 1
 ·rw [if_pos c3] at H;have iQ:=DT c3;clear c3;simp only [Option.some.injEq,Prod.mk.injEq] at H;obtain ⟨rfl,rfl,rfl⟩:=H;go_enter Try.func77,Try.ntmps77;go_wp2;go_ret;exact ⟨RE,AHI,AHB,AHK⟩
 ·rw [if_neg c3] at H;have iQ:=DF c3;clear c3;replace H:=EA H;obtain ⟨⟨t145,t146,afi⟩,A4,H⟩:=H;try dsimp only at H
  by_cases c5 : a1 > 200
  ·rw [if_pos c5] at H;have ko:=DT c5;clear c5;replace H:=EA H;obtain ⟨⟨t148,axW,axX⟩,A6,H⟩:=H;try dsimp only at H
   replace H:=ID H;obtain ⟨c7,H⟩:=H;have kS:=beq_eq_false_iff_ne.mpr c7;have Bb:=bne_iff_ne.mpr c7;simp only [Option.some.injEq,Prod.mk.injEq] at H;obtain ⟨rfl,rfl,rfl⟩:=H;go_enter Try.func77,Try.ntmps77;go_wp2_with (first|(refine GC 91 ?_;refine GM (some 9) Try.func91 (yX.calls g aG bK cZ t145 t146 afi w0 _ AHI AHB A4.out) ?_;rintro e w8 ⟨rfl,hi,hb,hk⟩;refine ⟨_,rfl,?_⟩;replace HK:=HX hk;replace HB:=AM hb;replace HI0:=AM hi;try clear hb hk hi)|(refine GC 91 ?_;refine GM (some 15) Try.func91 (yX.calls g aG t146 afi t148 axW axX w0 _ AHI AHB A6.out) ?_;rintro e w9 ⟨rfl,hi,hb,hk⟩;refine ⟨_,rfl,?_⟩;replace HK:=HX hk;replace HB:=AM hb;replace HI0:=AM hi;try clear hb hk hi));go_ret;exact ⟨RE,AHI,AHB,AHK⟩
  ·rw [if_neg c5] at H;have ko:=DF c5;clear c5;replace H:=ID H;obtain ⟨c10,H⟩:=H;have mE:=beq_eq_false_iff_ne.mpr c10;have Oe:=bne_iff_ne.mpr c10;simp only [Option.some.injEq,Prod.mk.injEq] at H;obtain ⟨rfl,rfl,rfl⟩:=H;go_enter Try.func77,Try.ntmps77;go_wp2_with (first|(refine GC 91 ?_;refine GM (some 9) Try.func91 (yX.calls g aG bK cZ t145 t146 afi w0 _ AHI AHB A4.out) ?_;rintro e w11 ⟨rfl,hi,hb,hk⟩;refine ⟨_,rfl,?_⟩;replace HK:=HX hk;replace HB:=AM hb;replace HI0:=AM hi;try clear hb hk hi));go_ret;exact ⟨RE,AHI,AHB,AHK⟩

def tK.f (aG : List Int) (bK : Int) (cZ : Int) (a1 : Int) : Option (Bool × Int × Int):=(fQ.f aG bK cZ a1).bind fun JF=>(some ((JF.1 == 0),JF.2.1,JF.2.2))
theorem tK.calls (g : Nat) (aG : List Int) (bK : Int) (cZ : Int) (a1 : Int) (r1 : Bool) (r2 : Int) (r3 : Int) (w0 w : World) (hI : aD w0 w g aG bK cZ) (hB : Below w0.heap.size w0 w) (h : tK.f aG bK cZ a1 = some (r1,r2,r3)) :
  Calls Try.prog 76 #[.pointer (some ⟨g,0,none⟩),.int .i64 a1] w fun e w'=>e = .returned (.bool r1)∧aD w0 w' g aG r2 r3∧Below w0.heap.size w0 w'∧bR w w' g none:=by
 have HI0:=AM hI;have HK:=AM (bR.refl w g none);have HL:=AM hB.size;clear hI;have HW0:=AM hB.size;have HB:=AM hB;clear hB;have H : ((fQ.f aG bK cZ a1).bind fun JF=>(some ((JF.1 == 0),JF.2.1,JF.2.2))) = some (r1,r2,r3):=h;clear h;replace H:=EA H;obtain ⟨⟨axY,t152,axZ⟩,A3,H⟩:=H;try dsimp only at H
 simp only [Option.some.injEq,Prod.mk.injEq] at H;obtain ⟨rfl,rfl,rfl⟩:=H;go_enter Try.func76,Try.ntmps76;go_wp2_with (first|(refine GC 77 ?_;refine GM (some 7) Try.func77 (fQ.calls g aG bK cZ a1 axY t152 axZ w0 _ AHI AHB A3.out) ?_;rintro e w4 ⟨rfl,hi,hb,hk⟩;refine ⟨_,rfl,?_⟩;replace HK:=HX hk;replace HB:=AM hb;replace HI0:=AM hi;try clear hb hk hi));go_ret;exact ⟨RE,AHI,AHB,AHK⟩

def rH.f (aG : List Int) (bK : Int) (cZ : Int) (l1 : List Int) : Option (Int × Int × Int):=(fQ.f aG bK cZ (l1.length : Int)).bind fun Ar=>(if 0 ≤ Ar.1 then (if Ar.1 < (l1.length : Int) then (some (rd l1 Ar.1,Ar.2.1,Ar.2.2)) else (none)) else (none))
theorem rH.calls (g : Nat) (aG : List Int) (bK : Int) (cZ : Int) (A1 : Option Addr) (c1 : Nat) (l1 : List Int) (r1 : Int) (r2 : Int) (r3 : Int) (w0 w : World) (hI : aD w0 w g aG bK cZ) (hB : Below w0.heap.size w0 w) (hr1 : Kd.C (Kd.int .i64) w A1 l1.length l1) (hc1 : l1.length ≤ c1) (hf1 : ∀ ad,A1 = some ad→0 < l1.length→ad.block≠g) (h : rH.f aG bK cZ l1 = some (r1,r2,r3)) :
  Calls Try.prog 78 #[.pointer (some ⟨g,0,none⟩),.slice A1 l1.length c1] w fun e w'=>e = .returned (.int .i64 r1)∧aD w0 w' g aG r2 r3∧Below w0.heap.size w0 w'∧bR w w' g none:=by
 have HR1:=AM hr1;have HC1:=AM hc1;clear hr1 hc1;have HI0:=AM hI;have HK:=AM (bR.refl w g none);have HL:=AM hB.size;clear hI;have HW0:=AM hB.size;have HB:=AM hB;clear hB;have H : ((fQ.f aG bK cZ (l1.length : Int)).bind fun Ar=>(if 0 ≤ Ar.1 then (if Ar.1 < (l1.length : Int) then (some (rd l1 Ar.1,Ar.2.1,Ar.2.2)) else (none)) else (none))) = some (r1,r2,r3):=h;clear h;replace H:=EA H;obtain ⟨⟨t154,ax0,t156⟩,A3,H⟩:=H;try dsimp only at H
 replace H:=IC H;obtain ⟨c4,H⟩:=H;have iR:=DT c4;clear c4;replace H:=IC H;obtain ⟨c5,H⟩:=H;have ko:=DT c5;clear c5;simp only [Option.some.injEq,Prod.mk.injEq] at H;obtain ⟨rfl,rfl,rfl⟩:=H;go_enter Try.func78,Try.ntmps78;go_wp2_with (first|(refine GC 77 ?_;refine GM (some 9) Try.func77 (fQ.calls g aG bK cZ (l1.length : Int) t154 ax0 t156 w0 _ AHI AHB A3.out) ?_;rintro e w6 ⟨rfl,hi,hb,hk⟩;refine ⟨_,rfl,?_⟩;replace HK:=HX hk;replace HB:=AM hb;replace HI0:=AM hi;try clear hb hk hi;have afj : 0 ≤ (t154 : Int):=OD AS;have afk : t154 < (l1.length : Int):=OD AS;obtain ⟨auw,ax1,aiN⟩:=Kd.aN HR1.out t154 afj afk;cases ax1;replace aiN:=Zi HK.out aiN (by first|(rw [add_block];exact hf1 _ rfl (by omega))|exact hf1 _ rfl (by omega)|exact hf1 auw rfl (by omega));replace afj:=ET afj;replace afk:=ET afk));go_ret;exact ⟨RE,AHI,AHB,AHK⟩

def yx.f (aG : List Int) (bK : Int) (cZ : Int) (a1 : Int) : Option (Int × Int × Int):=(tK.f aG bK cZ 12).bind fun Au=>(if Au.1 = true then ((rH.f aG Au.2.1 Au.2.2 (([(-1),0,8,9] : List Int))).bind fun Av=>(some (Av.1,Av.2.1,Av.2.2))) else ((fQ.f aG Au.2.1 Au.2.2 a1).bind fun JG=>(some (wrap64 (1 + JG.1),JG.2.1,JG.2.2))))
theorem yx.calls (g : Nat) (aG : List Int) (bK : Int) (cZ : Int) (a1 : Int) (r1 : Int) (r2 : Int) (r3 : Int) (w0 w : World) (hI : aD w0 w g aG bK cZ) (hB : Below w0.heap.size w0 w) (h : yx.f aG bK cZ a1 = some (r1,r2,r3)) :
  Calls Try.prog 94 #[.pointer (some ⟨g,0,none⟩),.int .i64 a1] w fun e w'=>e = .returned (.int .i64 r1)∧aD w0 w' g aG r2 r3∧Below w0.heap.size w0 w'∧bR w w' g none:=by
 have HI0:=AM hI;have HK:=AM (bR.refl w g none);have HL:=AM hB.size;clear hI;have HW0:=AM hB.size;have HB:=AM hB;clear hB;have H : ((tK.f aG bK cZ 12).bind fun Au=>(if Au.1 = true then ((rH.f aG Au.2.1 Au.2.2 (([(-1),0,8,9] : List Int))).bind fun Av=>(some (Av.1,Av.2.1,Av.2.2))) else ((fQ.f aG Au.2.1 Au.2.2 a1).bind fun JG=>(some (wrap64 (1 + JG.1),JG.2.1,JG.2.2))))) = some (r1,r2,r3):=h;clear h;replace H:=EA H;obtain ⟨⟨ax2,t159,t160⟩,A3,H⟩:=H;try dsimp only at H
 by_cases c4 : ax2 = true
 ·subst c4;replace H:=IP H;obtain ⟨amG,acI⟩ : ∃ y_ : List Int,y_ = (([(-1),0,8,9] : List Int)):=⟨_,rfl⟩;replace H : ((rH.f aG t159 t160 amG).bind fun Av=>(some (Av.1,Av.2.1,Av.2.2))) = some (r1,r2,r3):=HY H acI;have ak8:=AM acI;clear acI;replace H:=EA H;obtain ⟨⟨t164,ax3,ax4⟩,A5,H⟩:=H;try dsimp only at H
  simp only [Option.some.injEq,Prod.mk.injEq] at H;obtain ⟨rfl,rfl,rfl⟩:=H;go_enter Try.func94,Try.ntmps94;go_wp2_with (first|(refine GC 76 ?_;refine GM (some 6) Try.func76 (tK.calls g aG bK cZ 12 true t159 t160 w0 _ AHI AHB A3.out) ?_;rintro e w6 ⟨rfl,hi,hb,hk⟩;refine ⟨_,rfl,?_⟩;replace HK:=HX hk;replace HB:=AM hb;replace HI0:=AM hi;try clear hb hk hi)|((with_reducible refine dG (N:=8) rfl ?_);refine Kd.pF (Kd.int .i64) _ 3 ?hg (N:=8) ?hd (xs:=([(-1),0,8,9] : List Int)) (inner:=[.int .i64 (-1),.int .i64 0,.int .i64 8,.int .i64 9]) (ok:=fun _=>True) (okp:=fun _=>True) ?hr ?hp (fun _ hk=>hk) trivial (Below.refl _ _) (Nat.le_refl _) (by simp) ?_;(case hd=>rfl);(case hg=>rfl);(case hr=>exact GS);(case hp=>exact (aT.one (show Kd.M (Kd.int .i64) _ _ _ (-1) [.int .i64 (-1)] from rfl) (aT.one (show Kd.M (Kd.int .i64) _ _ _ 0 [.int .i64 0] from rfl) (aT.one (show Kd.M (Kd.int .i64) _ _ _ 8 [.int .i64 8] from rfl) (aT.one (show Kd.M (Kd.int .i64) _ _ _ 9 [.int .i64 9] from rfl) (aT.none _ _))))));intro v162 w7 ho8 hb hg_ eY;clear hg_ eY;(first|rw [← ak8.out] at ho8|(simp only [Int.reduceToNat] at ho8;rw [← ak8.out] at ho8));have Og:=AM (Kd.bD ho8 (oH (w:=w) (g:=g) (row:=none) AHK));replace HK:=AM (bR.trans AHK (bR.of_below hb g none) (.inl rfl));replace HB:=AM (jF AHB hb);replace HI0:=AM (aD.below AHI hb);clear hb ho8;obtain ⟨Ao9,co9,eo9⟩:=Kd.bG Og.out;subst eo9)|(refine GC 78 ?_;refine GM (some 9) Try.func78 (rH.calls g aG t159 t160 _ _ amG t164 ax3 ax4 w0 _ AHI AHB (CW (Kd.aA Og.out).2.2) ((Kd.aA Og.out).2.1) (PI (aD.own_ne HI0.out Og.out (by decide))) A5.out) ?_;rintro e w10 ⟨rfl,hi,hb,hk⟩;refine ⟨_,rfl,?_⟩;replace Og:=AM (Kd.aM (Kd.jq (aD.apart (show aD w0 _ g aG t159 t160 from AHI) (KR Og) (by decide)) hk (fun _ h=>h.2)) (fun _ h=>h.1));replace HK:=HX hk;replace HB:=AM hb;replace HI0:=AM hi;try clear hb hk hi));go_ret;exact ⟨RE,AHI,AHB,AHK⟩
 ·replace c4:=NF c4;subst c4;replace H:=IN H;replace H:=EA H;obtain ⟨⟨t167,t168,ax5⟩,A11,H⟩:=H;try dsimp only at H
  simp only [Option.some.injEq,Prod.mk.injEq] at H;obtain ⟨rfl,rfl,rfl⟩:=H;go_enter Try.func94,Try.ntmps94;go_wp2_with (first|(refine GC 76 ?_;refine GM (some 6) Try.func76 (tK.calls g aG bK cZ 12 false t159 t160 w0 _ AHI AHB A3.out) ?_;rintro e w12 ⟨rfl,hi,hb,hk⟩;refine ⟨_,rfl,?_⟩;replace HK:=HX hk;replace HB:=AM hb;replace HI0:=AM hi;try clear hb hk hi)|(refine GC 77 ?_;refine GM (some 12) Try.func77 (fQ.calls g aG t159 t160 a1 t167 t168 ax5 w0 _ AHI AHB A11.out) ?_;rintro e w13 ⟨rfl,hi,hb,hk⟩;refine ⟨_,rfl,?_⟩;replace HK:=HX hk;replace HB:=AM hb;replace HI0:=AM hi;try clear hb hk hi));go_ret;exact ⟨RE,AHI,AHB,AHK⟩

def jl.l0 : Nat→Int→Int→Int→Option (List Int)
 | 0,_,_,_=>none
 | k + 1,x0,x1,x5=>if x1 > x5 then (jl.l0 k x0 (wrap64 (x1 - (wrap64 (x5 + 1)))) (wrap64 (x5 + 1))) else (some (([wrap64 (x0 - x5),wrap64 (x5 - x1),x1] : List Int)))
def jl.f (k : Nat) (a0 : Int) (a1 : Int) : Option (List Int):=jl.l0 k a0 a1 0
theorem jl.bC : ∀ k,(∀ y0 y1 y2,LeO (jl.l0 k y0 y1 y2) (jl.l0 (k + 1) y0 y1 y2))
 | 0=>fun _ _ _ r h=>by simp [jl.l0] at h
 | k + 1=>by
  have ih0:=jl.bC k
  ·intro y0 y1 y2
   unfold jl.l0
   exact MO
theorem jl.mono : ∀ a0 a1 k,LeO (jl.f k a0 a1) (jl.f (k + 1) a0 a1):=by
 intro a0 a1 k;have ih0:=jl.bC k;unfold jl.f
 exact MO
theorem jl.calls (k : Nat) (a0 : Int) (a1 : Int) (r : List Int) (w : World) (h : jl.f k a0 a1 = some r) :
  Calls Try.prog 85 #[.int .i64 a0,.int .i64 a1] w fun e w'=>∃ v0_ : Value,e = .returned (v0_)∧Kd.R (Kd.int .i64) 3 w' w.heap.size (fun _=>True) v0_ r∧Below w.heap.size w w':=by
 have HB:=HRf w;have H : (jl.l0 k a0 a1 0) = some r:=h;clear h;have H':=AM H;clear H;go_enter Try.func85,Try.ntmps85;go_wp2;go_loopg [1,5] k (fun kq v1 v5 w'=>∃ (lV : Int) (fF : Int),v1 = .int .i64 lV∧v5 = .int .i64 fF∧ak (jl.l0 kq a0 lV fF = some r)∧ak (kq ≤ k)∧ak (Below w.heap.size w w'))
 case atStart=>exact ⟨(a1),(0),RF,RF,H',⟨Nat.le_refl _⟩,⟨BB⟩⟩
 case round =>
  clear H';try clear p2
  obtain ⟨lV,fF,rfl,rfl,HA,HK1,HB⟩:=hrel;cases gk with
  | zero=>exact absurd HA.out (by simp [jl.l0])
  | succ k1 =>
   have H:=HA.out;clear HA;simp only [jl.l0] at H;by_cases c3 : lV > fF
   ·rw [if_pos c3] at H;have iQ:=DT c3;clear c3;have H':=AM H;clear H;go_wp2;go_roundg k1
    case measure=>have:=HK1.out;omega
    case rel=>exact ⟨(wrap64 (lV - (wrap64 (fF + 1)))),(wrap64 (fF + 1)),RF,RF,H',⟨by have:=HK1.out;omega⟩,⟨BB⟩⟩
   ·rw [if_neg c3] at H;have iQ:=DF c3;clear c3;obtain ⟨ax6,acJ⟩ : ∃ y_ : List Int,y_ = (([wrap64 (a0 - fF),wrap64 (fF - lV),lV] : List Int)):=⟨_,rfl⟩;replace H : (some ax6) = some r:=HY H acJ;have ak9:=AM acJ;clear acJ;obtain rfl:=Option.some.inj H;go_wp2_with (first|((with_reducible refine dG (N:=22) rfl ?_);refine Kd.pF (Kd.int .i64) _ 3 ?hg (N:=22) ?hd (xs:=([wrap64 (a0 - fF),wrap64 (fF - lV),lV] : List Int)) (inner:=[.int .i64 (wrap64 (a0 - fF)),.int .i64 (wrap64 (fF - lV)),.int .i64 lV]) (ok:=fun _=>True) (okp:=fun _=>True) ?hr ?hp (fun _ hk=>hk) trivial (Below.refl _ _) (Nat.le_refl _) (by simp) ?_;(case hd=>rfl);(case hg=>rfl);(case hr=>exact GS);(case hp=>exact (aT.one (show Kd.M (Kd.int .i64) _ _ _ (wrap64 (a0 - fF)) [.int .i64 (wrap64 (a0 - fF))] from rfl) (aT.one (show Kd.M (Kd.int .i64) _ _ _ (wrap64 (fF - lV)) [.int .i64 (wrap64 (fF - lV))] from rfl) (aT.one (show Kd.M (Kd.int .i64) _ _ _ lV [.int .i64 lV] from rfl) (aT.none _ _)))));intro v171 w4 ho5 hb hg_ eY;clear hg_ eY;(first|rw [← ak9.out] at ho5|(simp only [Int.reduceToNat] at ho5;rw [← ak9.out] at ho5));have auy:=AM (Kd.bD ho5 (BZ BB));replace HB:=HS hb;clear hb ho5));go_ret;exact ⟨_,RE,KR auy,BB⟩

mutual
def gJ.l0 : Nat→Int→List Int→Int→List Int→Int→Int→Option (List Int × Int × Int)
 | 0,_,_,_,_,_,_=>none
 | k + 1,x1,x5,x6,x1000,sQ,sS=>(pq.f x1).bind fun t173=>(if x6 < t173 then ((jl.f k x1 x6).bind fun rE=>(gJ.l1 k x1 x5 x6 ([] : List Int) rE (rE.length : Int) 0 x1000 sQ sS)) else (some (x5,sQ,sS)))
def gJ.l1 : Nat→Int→List Int→Int→List Int→List Int→Int→Int→List Int→Int→Int→Option (List Int × Int × Int)
 | 0,_,_,_,_,_,_,_,_,_,_=>none
 | k + 1,x1,x5,x6,x7,x18,x19,x20,x1000,sQ,sS=>if x20 < x19 then (if 0 ≤ x20 then (if x20 < (x18.length : Int) then (if (rd x18 x20) > 0 then (if x7.length < 17592186044416 then (gJ.l1 k x1 x5 x6 (x7 ++ [x20]) x18 x19 (wrap64 (x20 + 1)) x1000 sQ sS) else (none)) else (gJ.l1 k x1 x5 x6 x7 x18 x19 (wrap64 (x20 + 1)) x1000 sQ sS)) else (none)) else (none)) else ((fQ.f x1000 sQ sS (x7.length : Int)).bind fun Sm=>(if 0 ≤ Sm.1 then (if Sm.1 < (x7.length : Int) then (if x5.length < 17592186044416 then (gJ.l0 k x1 (x5 ++ [rd x7 Sm.1]) (wrap64 (x6 + 1)) x1000 Sm.2.1 Sm.2.2) else (none)) else (none)) else (none)))
end
def gJ.f (k : Nat) (aG : List Int) (bK : Int) (cZ : Int) (a1 : Int) : Option (List Int × Int × Int):=gJ.l0 k a1 ([] : List Int) 0 aG bK cZ
theorem gJ.bC : ∀ k,(∀ y0 y1 y2 y3 y4 y5,LeO (gJ.l0 k y0 y1 y2 y3 y4 y5) (gJ.l0 (k + 1) y0 y1 y2 y3 y4 y5))∧(∀ y0 y1 y2 y3 y4 y5 y6 y7 y8 y9,LeO (gJ.l1 k y0 y1 y2 y3 y4 y5 y6 y7 y8 y9) (gJ.l1 (k + 1) y0 y1 y2 y3 y4 y5 y6 y7 y8 y9))
 | 0=>⟨fun _ _ _ _ _ _=>LZ,fun _ _ _ _ _ _ _ _ _ _=>LZ⟩
 | k + 1=>by
  obtain ⟨ih0,ih1⟩:=gJ.bC k
  have m0:=@jl.mono
  refine ⟨?_,?_⟩ <;> intros
  all_goals (first|unfold gJ.l0|unfold gJ.l1)
  all_goals exact MO
theorem gJ.mono : ∀ a0 a1 a2 a3 k,LeO (gJ.f k a0 a1 a2 a3) (gJ.f (k + 1) a0 a1 a2 a3):=by
 intro a0 a1 a2 a3 k;obtain ⟨ih0,ih1⟩:=gJ.bC k;unfold gJ.f
 have m0:=@jl.mono
 exact MO
theorem gJ.calls (k : Nat) (g : Nat) (aG : List Int) (bK : Int) (cZ : Int) (a1 : Int) (r1 : List Int) (r2 : Int) (r3 : Int) (w0 w : World) (hI : aD w0 w g aG bK cZ) (hB : Below w0.heap.size w0 w) (h : gJ.f k aG bK cZ a1 = some (r1,r2,r3)) :
  Calls Try.prog 95 #[.pointer (some ⟨g,0,none⟩),.int .i64 a1] w fun e w'=>∃ v0_ : Value,e = .returned (v0_)∧Kd.R (Kd.int .i64) 3 w' w.heap.size (fun _=>True) v0_ r1∧aD w0 w' g aG r2 r3∧Below w0.heap.size w0 w'∧bR w w' g none:=by
 have HI0:=AM hI;have HK:=AM (bR.refl w g none);have HL:=AM hB.size;clear hI;have HW0:=AM hB.size;have HB:=AM hB;clear hB;have H : (gJ.l0 k a1 ([] : List Int) 0 aG bK cZ) = some (r1,r2,r3):=h;clear h;have H':=AM H;clear H;go_enter Try.func95,Try.ntmps95;go_wp2;go_loopg [5,6] k (fun kq v5 v6 w'=>∃ (fF : List Int) (iO : Int) (uT : Int) (uU : Int),v6 = .int .i64 iO∧ak (gJ.l0 kq a1 fF iO aG uT uU = some (r1,r2,r3))∧ak (kq ≤ k)∧ak (Kd.R (Kd.int .i64) 3 w' w.heap.size (fun _=>True) v5 fF)∧ak (aD w0 w' g aG uT uU)∧ak (bR w w' g none)∧ak (Below w0.heap.size w0 w'))
 case atStart=>exact ⟨(([] : List Int)),(0),(bK),(cZ),RF,H',⟨Nat.le_refl _⟩,⟨by first|exact Kd.om _ _ _ _ _|exact Kd.qz _ _ _ _ _|exact Kd.pE _ _ _ _ _|exact Kd.qA _ _ _ _ _|exact Kd.qB _ _ _ _ _⟩,⟨AHI⟩,⟨AHK⟩,⟨AHB⟩⟩
 case round =>
  clear H';try clear p2
  obtain ⟨fF,iO,uT,uU,rfl,HA,HK1,fq,HI0,HK,HB⟩:=hrel;cases gk with
  | zero=>exact absurd HA.out (by simp [gJ.l0])
  | succ k1 =>
   have H:=HA.out;clear HA;simp only [gJ.l0] at H;replace H:=EA H;obtain ⟨t173,A3,H⟩:=H;by_cases c4 : iO < t173
   ·rw [if_pos c4] at H;have iR:=DT c4;clear c4;replace H:=EA H;obtain ⟨rE,A5,H⟩:=H;have H':=AM H;clear H;go_wp2_with (first|(refine GC 57 ?_;refine GM (some 12) Try.func57 (pq.calls a1 t173 _ A3.out) ?_;rintro e w' ⟨rfl,⟨nd,rfl⟩⟩;refine ⟨_,rfl,?_⟩)|(refine GC 85 ?_;refine GM (some 18) Try.func85 (jl.calls k1 a1 iO rE _ A5.out) ?_;rintro e w6 ⟨v175,rfl,ho0,hb⟩;refine ⟨_,rfl,?_⟩;have ala:=AM (Kd.bD (Kd.dM ho0 (Kd.bJ (KR fq))) (oH (w:=w) (g:=g) (row:=none) AHK));replace fq:=RO fq ho0 hb;replace HK:=AM (bR.trans AHK (bR.of_below hb g none) (.inl rfl));replace HB:=AM (jF AHB hb);replace HI0:=AM (aD.below AHI hb);try clear hb ho0;obtain ⟨Ao7,co7,eo7⟩:=Kd.bG ala.out;subst eo7));go_loopg [7,20] k1 (fun kq v7 v20 w'=>∃ (bI : List Int) (uq : Int),v20 = .int .i64 uq∧ak (gJ.l1 kq a1 fF iO bI rE (rE.length : Int) uq aG uT uU = some (r1,r2,r3))∧ak (kq ≤ k1)∧ak (Kd.R (Kd.int .i64) 3 w' w.heap.size (fun k_=>some k_≠(v7 : Value).ownBlock∧some k_≠((.slice Ao7 rE.length co7) : Value).ownBlock) u5 fF)∧ak (Kd.R (Kd.int .i64) 3 w' w.heap.size (fun k_=>some k_≠(u5 : Value).ownBlock∧some k_≠((.slice Ao7 rE.length co7) : Value).ownBlock) v7 bI)∧ak (Kd.R (Kd.int .i64) 3 w' w.heap.size (fun k_=>some k_≠(u5 : Value).ownBlock∧some k_≠(v7 : Value).ownBlock) (.slice Ao7 rE.length co7) rE)∧ak (aD w0 w' g aG uT uU)∧ak (bR w w' g none)∧ak (Below w0.heap.size w0 w'))
    case atStart=>exact ⟨(([] : List Int)),(0),RF,H',⟨Nat.le_refl _⟩,⟨by (with_reducible repeat (first|apply Kd.dh|apply Kd.dn|apply Kd.bF));exact Kd.aM fq.out (fun _ hk=>⟨(by simp [Value.ownBlock]),hk.2⟩)⟩,⟨by first|exact Kd.om _ _ _ _ _|exact Kd.qz _ _ _ _ _|exact Kd.pE _ _ _ _ _|exact Kd.qA _ _ _ _ _|exact Kd.qB _ _ _ _ _⟩,⟨by (with_reducible repeat (first|apply Kd.dh|apply Kd.dn|apply Kd.bF));exact Kd.aM ala.out (fun _ hk=>⟨hk.2,(by simp [Value.ownBlock])⟩)⟩,⟨AHI⟩,⟨AHK⟩,⟨AHB⟩⟩
    case round =>
     clear H';try clear p2
     try clear c4
     try clear iR
     try clear c5
     try clear p6
     try clear p2
     obtain ⟨bI,uq,rfl,HA,HK2,fq,bf,zq,HI0,HK,HB⟩:=hrel;cases gk with
     | zero=>exact absurd HA.out (by simp [gJ.l1])
     | succ k2 =>
      have H:=HA.out;clear HA;simp only [gJ.l1] at H;by_cases c8 : uq < (rE.length : Int)
      ·rw [if_pos c8] at H;have nU:=DT c8;clear c8;replace H:=IC H;obtain ⟨c9,H⟩:=H;have wD:=DT c9;clear c9;replace H:=IC H;obtain ⟨c10,H⟩:=H;have mE:=DT c10;clear c10;by_cases c11 : (rd rE uq) > 0
       ·rw [if_pos c11] at H;have qK:=DT c11;clear c11;replace H:=IC H;obtain ⟨c12,H⟩:=H;have auz:=AM c12;clear c12;obtain ⟨amH,acK⟩ : ∃ y_ : List Int,y_ = (bI ++ [uq]):=⟨_,rfl⟩;replace H : (gJ.l1 k2 a1 fF iO amH rE (rE.length : Int) (wrap64 (uq + 1)) aG uT uU) = some (r1,r2,r3):=HY H acK;have auA:=AM acK;clear acK;have H':=AM H;clear H;have Lj : 0 ≤ (uq : Int):=OD AS;have Ll : uq < (rE.length : Int):=OD AS;obtain ⟨acL,afl,aqr⟩:=Kd.aN (Kd.aA zq.out).2.2 uq Lj Ll;cases afl;replace Lj:=ET Lj;replace Ll:=ET Ll;go_wp2_with (first|((with_reducible refine pW (b:=.append) (xs:=#[.tmp 27,.tmp 29]) rfl ?_);at_builtin;refine Kd.qX (Kd.int .i64) w.heap.size rfl (.tmp 27) (.tmp 29) 24 3 (.int .i64 0) 8 rfl Try.underlying24 info3 rfl (by decide) (by omega) u7 bI uq [.int .i64 uq] (fun k_=>some k_≠(u5 : Value).ownBlock∧some k_≠(.slice (some acL) rE.length co7 : Value).ownBlock) (fun _=>False) rfl rfl ?aP (fun _ hk=>hk.elim) ?aF ?aO (Below.refl _ _) ?aS ?aL ?_;(case aP=>exact rfl);(case aF=>exact (fun k_ hk=>⟨Kd.fresh' (Kd.bJ (KR fq)) k_ hk,Kd.fresh' (Kd.bJ (KR zq)) k_ hk⟩));(case aO=>exact (KR bf));(case aS=>exact (oH (w:=w) (g:=g) (row:=none) AHK));(case aL=>have:=auz.out;omega);intro aFb w13 ho hb hg hat;rw [← auA.out] at ho;replace fq:=AM (Kd.Cu (ok:=(fun k_=>some k_≠(.slice (some acL) rE.length co7 : Value).ownBlock)) (by (with_reducible repeat (first|apply Kd.dh|apply Kd.dn|apply Kd.bF));exact Kd.aM fq.out (fun _ hk=>⟨hk.2,hk.1⟩)) hg hat);replace zq:=AM (Kd.Cu (ok:=(fun k_=>some k_≠(u5 : Value).ownBlock)) (KR zq) hg hat);replace HB:=AM (Zb AHB HL.out hb);replace HI0:=AM (aD.grown AHI hg (aD.own_ne HI0.out bf.out (by decide)));replace HK:=AM (bR.trans AHK (bR.Dt hg g) (Kd.IL bf.out));have auB:=AM ho;clear bf;clear ho hb hg hat));go_roundg k2
        case measure=>have:=HK1.out;have:=HK2.out;omega
        case rel=>exact ⟨(amH),(wrap64 (uq + 1)),RF,H',⟨by have:=HK1.out;have:=HK2.out;omega⟩,⟨by (with_reducible repeat (first|apply Kd.dh|apply Kd.dn|apply Kd.bF));exact Kd.aM fq.out (fun _ hk=>⟨hk.2,hk.1⟩)⟩,⟨KR auB⟩,⟨KR zq⟩,⟨AHI⟩,⟨AHK⟩,⟨AHB⟩⟩
       ·rw [if_neg c11] at H;have qK:=DF c11;clear c11;have H':=AM H;clear H;have Lj : 0 ≤ (uq : Int):=OD AS;have Ll : uq < (rE.length : Int):=OD AS;obtain ⟨acL,afl,aqr⟩:=Kd.aN (Kd.aA zq.out).2.2 uq Lj Ll;cases afl;replace Lj:=ET Lj;replace Ll:=ET Ll;go_wp2;go_roundg k2
        case measure=>have:=HK1.out;have:=HK2.out;omega
        case rel=>exact ⟨(bI),(wrap64 (uq + 1)),RF,H',⟨by have:=HK1.out;have:=HK2.out;omega⟩,⟨KR fq⟩,⟨KR bf⟩,⟨KR zq⟩,⟨AHI⟩,⟨AHK⟩,⟨AHB⟩⟩
      ·rw [if_neg c8] at H;have nU:=DF c8;clear c8;replace H:=EA H;obtain ⟨⟨Lm,t182,t183⟩,A14,H⟩:=H;try dsimp only at H
       replace H:=IC H;obtain ⟨c15,H⟩:=H;have yJ:=DT c15;clear c15;replace H:=IC H;obtain ⟨c16,H⟩:=H;have Al:=DT c16;clear c16;replace H:=IC H;obtain ⟨c17,H⟩:=H;have auC:=AM c17;clear c17;obtain ⟨amI,acM⟩ : ∃ y_ : List Int,y_ = (fF ++ [rd bI Lm]):=⟨_,rfl⟩;replace H : (gJ.l0 k2 a1 amI (wrap64 (iO + 1)) aG t182 t183) = some (r1,r2,r3):=HY H acM;have auD:=AM acM;clear acM;have H':=AM H;clear H;obtain ⟨GV,Df,Bq⟩:=Kd.bG bf.out;subst Bq;go_wp2_with (first|(refine GC 77 ?_;refine GM (some 37) Try.func77 (fQ.calls g aG uT uU (bI.length : Int) Lm t182 t183 w0 _ AHI AHB A14.out) ?_;rintro e w19 ⟨rfl,hi,hb,hk⟩;refine ⟨_,rfl,?_⟩;replace fq:=AM (Kd.aM (Kd.jq (aD.apart (show aD w0 _ g aG uT uU from AHI) (KR fq) (by decide)) hk (fun _ h=>h.2)) (fun _ h=>h.1));replace bf:=AM (Kd.aM (Kd.jq (aD.apart (show aD w0 _ g aG uT uU from AHI) (KR bf) (by decide)) hk (fun _ h=>h.2)) (fun _ h=>h.1));replace zq:=AM (Kd.aM (Kd.jq (aD.apart (show aD w0 _ g aG uT uU from AHI) (KR zq) (by decide)) hk (fun _ h=>h.2)) (fun _ h=>h.1));replace HK:=HX hk;replace HB:=AM hb;replace HI0:=AM hi;try clear hb hk hi;have afm : 0 ≤ (Lm : Int):=OD AS;have afn : Lm < (bI.length : Int):=OD AS;obtain ⟨alb,ax7,aAU⟩:=Kd.aN (Kd.aA bf.out).2.2 Lm afm afn;cases ax7;replace afm:=ET afm;replace afn:=ET afn)|((with_reducible refine pW (b:=.append) (xs:=#[.tmp 32,.tmp 40]) rfl ?_);at_builtin;refine Kd.qX (Kd.int .i64) w.heap.size rfl (.tmp 32) (.tmp 40) 24 3 (.int .i64 0) 8 rfl Try.underlying24 info3 rfl (by decide) (by omega) u5 fF (rd bI Lm) [.int .i64 (rd bI Lm)] (fun k_=>some k_≠(.slice (some alb) bI.length Df : Value).ownBlock∧some k_≠(.slice Ao7 rE.length co7 : Value).ownBlock) (fun _=>False) rfl rfl ?aP (fun _ hk=>hk.elim) ?aF ?aO (Below.refl _ _) ?aS ?aL ?_;(case aP=>exact rfl);(case aF=>exact (fun k_ hk=>⟨Kd.fresh' (Kd.bJ (KR bf)) k_ hk,Kd.fresh' (Kd.bJ (KR zq)) k_ hk⟩));(case aO=>exact (KR fq));(case aS=>exact (oH (w:=w) (g:=g) (row:=none) AHK));(case aL=>have:=auC.out;omega);intro aFc w20 ho hb hg hat;rw [← auD.out] at ho;replace bf:=AM (Kd.Cu (ok:=(fun k_=>some k_≠(.slice Ao7 rE.length co7 : Value).ownBlock)) (by (with_reducible repeat (first|apply Kd.dh|apply Kd.dn|apply Kd.bF));exact Kd.aM bf.out (fun _ hk=>⟨hk.2,hk.1⟩)) hg hat);replace zq:=AM (Kd.Cu (ok:=(fun k_=>some k_≠(.slice (some alb) bI.length Df : Value).ownBlock)) (by (with_reducible repeat (first|apply Kd.dh|apply Kd.dn|apply Kd.bF));exact Kd.aM zq.out (fun _ hk=>⟨hk.2,hk.1⟩)) hg hat);replace HB:=AM (Zb AHB HL.out hb);replace HI0:=AM (aD.grown AHI hg (aD.own_ne HI0.out fq.out (by decide)));replace HK:=AM (bR.trans AHK (bR.Dt hg g) (Kd.IL fq.out));have auE:=AM ho;clear fq;clear ho hb hg hat));go_roundg k2
       case measure=>have:=HK1.out;have:=HK2.out;omega
       case rel=>exact ⟨(amI),(wrap64 (iO + 1)),(t182),(t183),RF,H',⟨by have:=HK1.out;have:=HK2.out;omega⟩,⟨by (with_reducible repeat (first|apply Kd.dh|apply Kd.dn|apply Kd.bF));exact Kd.aM auE.out (fun _ hk=>trivial)⟩,⟨AHI⟩,⟨AHK⟩,⟨AHB⟩⟩
   ·rw [if_neg c4] at H;have iR:=DF c4;clear c4;simp only [Option.some.injEq,Prod.mk.injEq] at H;obtain ⟨rfl,rfl,rfl⟩:=H;go_wp2_with (first|(refine GC 57 ?_;refine GM (some 12) Try.func57 (pq.calls a1 t173 _ A3.out) ?_;rintro e w' ⟨rfl,⟨nd,rfl⟩⟩;refine ⟨_,rfl,?_⟩));go_ret;exact ⟨_,RE,KR fq,AHI,AHB,AHK⟩

end Go.Proofs.Ythaonijhfeemfaa.dL
