/- Proved: each Go function that is named below comes to the answers of the Lean function printed for it. Printed by a changed copy of the kit's print program (wip/mkpk.py), for this claim. -/
import Derived.Test.YtclploookcjcbaaPFrx0
import Derived.Test.YtclploookcjcbaaPFrA
namespace Go.Proofs.Ytclploookcjcbaa.PFr
open Go.RowKit Go.Proofs.YtclploookcjcbaaW.PrintWords Go.Proofs.YtclploookcjcbaaW.PrintLast Go.Proofs.YtclploookcjcbaaW.PrintMore
attribute [local go_sem] max2_int min2_int max_two min_two max_three min_three max_four min_four   -- for this text's walks alone
set_option linter.unusedVariables false
set_option linter.unusedSimpArgs false

/-! ### iFO: function 24 -/
mutual
def iFO.j0:Nat → Bool → List (S75) → Option (Int)
  |0,_,_=>none
  |k+1,x20,x113000=>if x20=true then (some 1) else (if 0 < (x113000.length:Int) then (if (!(((rT x113000 0).f0)==(-1)) || (!((((rT x113000 0).f1).toList)==([]:List UInt8)) || (!(((rT x113000 0).f2)==0))))=true then (some 2) else (if 1≤(x113000.length:Int) then ((some (x113000.drop 1:List (S75))).bind fun y114=>(iFO.l0 k y114 (y114.length:Int) 0 x113000)) else (none))) else (none))
def iFO.l0:Nat → List (S75) → Int → Int → List (S75) → Option (Int)
  |0,_,_,_,_=>none
  |k+1,x29,x30,x31,x113000=>if x31 < x30 then (if 0≤x31 then (if x31 < (x29.length:Int) then (if ((rT x29 x31).f0) < 0 then (some 3) else (if ((rT x29 x31).f0) > x31 then (some 3) else (if 0≤((rT x29 x31).f0) then (if ((rT x29 x31).f0) < (x113000.length:Int) then (if ((rT x29 x31).f2)=(wrap64 (((rT x113000 ((rT x29 x31).f0)).f2)+1)) then (if ((rT x29 x31).f2) > 12 then (some 3) else (if (((rT x29 x31).f1).size:Int) > 4000 then (some 3) else (iFO.l0 k x29 x30 (wrap64 (x31+1)) x113000))) else (some 3)) else (none)) else (none)))) else (none)) else (none)) else (if SetMap.keysFit (x113000.map fun y=>(y.f0,y.f1))=true then (if SetMap.dupB (x113000.map fun y=>(y.f0,y.f1))=true then (some 4) else (iFO.l1 k (x113000.length:Int) 0 x113000)) else none)
def iFO.l1:Nat → Int → Int → List (S75) → Option (Int)
  |0,_,_,_=>none
  |k+1,x91,x92,x113000=>if x92 < x91 then ((iFf.f k x113000 x92).bind fun t121=>((sSort.f t121).bind fun t124=>((sComp.f t124).bind fun t125=>(if 0≤x92 then (if x92 < (x113000.length:Int) then (if (t125.length:Int)=((rT x113000 x92).f2) then (iFO.l1 k x91 (wrap64 (x92+1)) x113000) else (some 5)) else (none)) else (none))))) else (some 0)
end
def iFO.f (k:Nat) (l0_0:List (S75)):Option (Int):=if (l0_0.length:Int) < 1 then (iFO.j0 k true l0_0) else (iFO.j0 k (decide ((l0_0.length:Int) > 200)) l0_0)
theorem iFO.mono_l:∀ k,(∀ y0 y1,LeO (iFO.j0 k y0 y1) (iFO.j0 (k+1) y0 y1))∧(∀ y0 y1 y2 y3,LeO (iFO.l0 k y0 y1 y2 y3) (iFO.l0 (k+1) y0 y1 y2 y3))∧(∀ y0 y1 y2,LeO (iFO.l1 k y0 y1 y2) (iFO.l1 (k+1) y0 y1 y2))
  |0=>⟨fun _ _ r h=>by simp [iFO.j0] at h,fun _ _ _ _ r h=>by simp [iFO.l0] at h,fun _ _ _ r h=>by simp [iFO.l1] at h⟩
  |k+1=>by
    obtain ⟨ih0,ih1,ih2⟩:=iFO.mono_l k;refine ⟨?_,?_,?_⟩
    · intro y0 y1
      unfold iFO.j0
      repeat' first
      |(with_reducible exact ih0 _ _)
      |(with_reducible exact ih1 _ _ _ _)
      |(with_reducible exact ih2 _ _ _)
      |(with_reducible exact iFf.mono _ _ _)
      |(with_reducible exact LeO.refl _)
      |(with_reducible exact LeO.none _)
      |(with_reducible refine LeO.ite ?_ ?_)
      |(with_reducible refine LeO.bind ?_ (fun _=>?_))
      |exact ih0 _ _
      |exact ih1 _ _ _ _
      |exact ih2 _ _ _
      |exact iFf.mono _ _ _
      |exact LeO.none _
      |refine LeO.ite ?_ ?_
      |refine LeO.bind ?_ (fun _=>?_)
    · intro y0 y1 y2 y3
      unfold iFO.l0
      repeat' first
      |(with_reducible exact ih0 _ _)
      |(with_reducible exact ih1 _ _ _ _)
      |(with_reducible exact ih2 _ _ _)
      |(with_reducible exact iFf.mono _ _ _)
      |(with_reducible exact LeO.refl _)
      |(with_reducible exact LeO.none _)
      |(with_reducible refine LeO.ite ?_ ?_)
      |(with_reducible refine LeO.bind ?_ (fun _=>?_))
      |exact ih0 _ _
      |exact ih1 _ _ _ _
      |exact ih2 _ _ _
      |exact iFf.mono _ _ _
      |exact LeO.none _
      |refine LeO.ite ?_ ?_
      |refine LeO.bind ?_ (fun _=>?_)
    · intro y0 y1 y2
      unfold iFO.l1
      repeat' first
      |(with_reducible exact ih0 _ _)
      |(with_reducible exact ih1 _ _ _ _)
      |(with_reducible exact ih2 _ _ _)
      |(with_reducible exact iFf.mono _ _ _)
      |(with_reducible exact LeO.refl _)
      |(with_reducible exact LeO.none _)
      |(with_reducible refine LeO.ite ?_ ?_)
      |(with_reducible refine LeO.bind ?_ (fun _=>?_))
      |exact ih0 _ _
      |exact ih1 _ _ _ _
      |exact ih2 _ _ _
      |exact iFf.mono _ _ _
      |exact LeO.none _
      |refine LeO.ite ?_ ?_
      |refine LeO.bind ?_ (fun _=>?_)
theorem iFO.mono:∀ a0 k,LeO (iFO.f k a0) (iFO.f (k+1) a0):=by
  intro a0 k
  obtain ⟨ih0,ih1,ih2⟩:=iFO.mono_l k;unfold iFO.f
  repeat' first
      |(with_reducible exact ih0 _ _)
      |(with_reducible exact ih1 _ _ _ _)
      |(with_reducible exact ih2 _ _ _)
      |(with_reducible exact iFf.mono _ _ _)
      |(with_reducible exact LeO.refl _)
      |(with_reducible exact LeO.none _)
      |(with_reducible refine LeO.ite ?_ ?_)
      |(with_reducible refine LeO.bind ?_ (fun _=>?_))
      |exact ih0 _ _
      |exact ih1 _ _ _ _
      |exact ih2 _ _ _
      |exact iFf.mono _ _ _
      |exact LeO.none _
      |refine LeO.ite ?_ ?_
      |refine LeO.bind ?_ (fun _=>?_)
def iFO.T9:Bool × List (List Nat × List Nat):=(true,[([],[]),([0],[0]),([1],[1]),([2],[2]),([3],[3]),([4,3],[3,4]),([3],[3]),([5,6,3],[3,5,6]),([3,7],[3,7]),([8,3],[8]),([9],[9]),([10,9],[9,10]),([9],[9]),([12,9],[9,12]),([9],[9]),([14,9],[9,14]),([13,15,9],[9,13,15]),([16,9],[9,16]),([17,9],[9,17]),([18,9],[9,18]),([11,19,9],[9,11,19]),([9,20],[9,20]),([21,9],[21]),([22],[22]),([23,22],[22,23]),([24,22],[22,24]),([22,25],[22,25]),([26,22],[26]),([27],[27]),([28,27],[27,28]),([29,27],[27,29]),([30,27],[27,30]),([27,31],[27,31])])
def iFO.B9:List Nat:=[0,1,3,7,15,31,15,127,255,511,1023,2047,1023,5119,1023,17407,62463,127999,259071,521215,1048575,2097151,4194303,8388607,16777215,33554431,67108863,134217727,268435455,536870911,1073741823,2147483647,4294967295]
theorem iFO.tab9:rtab .any (opsOf Try.f24 9)=iFO.T9:=by kernel_rfl
theorem iFO.bits9:waitsOk iFO.T9.2 iFO.B9=true:=by kernel_rfl
def iFO.T26:Bool × List (List Nat × List Nat):=(true,[([],[]),([0],[0]),([1],[1]),([],[]),([3],[3]),([],[]),([4,5],[4,5]),([6],[6]),([7],[7]),([2,8],[2,8])])
def iFO.B26:List Nat:=[0,1,3,0,8,0,56,120,248,511]
theorem iFO.tab26:rtab .any (opsOf Try.f24 26)=iFO.T26:=by kernel_rfl
theorem iFO.bits26:waitsOk iFO.T26.2 iFO.B26=true:=by kernel_rfl
set_option maxHeartbeats 16000000 in
set_option maxRecDepth 100000 in
theorem iFO.calls (k:Nat) (A0_0:Option Addr) (c0_0:Nat) (l0_0:List (S75)) (r:Int) (w:World) (hr0_0:Kd.C k75 w A0_0 l0_0.length l0_0) (hc0_0:l0_0.length≤c0_0) (h:iFO.f k l0_0=some r) :
    Calls Try.prog 24 #[.agg #[.slice A0_0 l0_0.length c0_0]] w fun e w'=>e=.returned (.int .i64 r)∧Below w.heap.size w w':=by
 have hu36:=Try.underlying36;have hu75:=Try.underlying75;have HR0_0:=A0_.mk hr0_0;have HC0_0:=A0_.mk hc0_0;clear hr0_0 hc0_0;have HB:=A0_.mk (Below.refl w.heap.size w);have H:(if (l0_0.length:Int) < 1 then (iFO.j0 k true l0_0) else (iFO.j0 k (decide ((l0_0.length:Int) > 200)) l0_0))=some r:=h;clear h;have HC2:=A0_.mk H;clear H
 go_enter Try.func24,Try.ntmps24
 go_upto_region 2 with (first|((with_reducible refine gtD (N:=1) rfl ?_);(try (refine gtG (by rfl) ?_;dsimp only));refine bxE ?hg (N:=1) ?hd (cs:=#[.slice A0_0 l0_0.length c0_0]) (t:=36) ?hr ?_;(case hd=>rfl);(case hg=>rfl);(case hr=>first|(go_simp;done)|(go_simp;rfl));intro gb112 hg w3 hbox hb;have n0_:=A0_.mk (bsp (by repeat (first|(with_reducible first|exact HB.out|apply bal|apply pdN|apply bdr)|exact HB.out)) hb);have n1_:=A0_.mk (hbox);have n2_:=A0_.mk ((by rw [hg];exact (bsz (by repeat (first|(with_reducible first|exact HB.out|apply bal|apply pdN|apply bdr)|exact HB.out))):w.heap.size≤gb112));have n3_:=A0_.mk ((by rw [hg];exact (bsz (by repeat (first|(with_reducible first|exact HB.out|apply bal|apply pdN|apply bdr)|exact HB.out))):w.heap.size≤gb112));clear HB;have HB:=n0_;have BK112:=n1_;have GW112:=n2_;have GE112:=n3_;clear n0_ n1_ n2_ n3_;clear hb hbox hg;have hcz4_0:w3.cell? ⟨gb112,0,none⟩=some (.slice A0_0 l0_0.length c0_0):=(bkC BK112.out 0).trans rfl;have hfz4_0:=bkF BK112.out 0))
 (try simp only [Act.put,List.setIfInBounds_toArray,List.set_cons_zero,List.set_cons_succ])
 go_cut [20] (fun v20 wc=>∃ (kq:Nat) (x20_1:Bool),v20=.bool x20_1∧A0_ (iFO.j0 kq x20_1 l0_0=some r)∧A0_ (kq≤k)∧A0_ (wc.heap[gb112]? = some (.cells #[(.slice A0_0 l0_0.length c0_0)] 36 (0,0)))∧A0_ (Below w.heap.size w wc))
 case first=>
  have H:=HC2.out;clear HC2
  by_cases c5:(l0_0.length:Int) < 1
  ·rw [if_pos c5] at H
   have c5b0:decide ((l0_0.length:Int) < 1)=true:=decide_eq_true c5;have c5b1:decide (l0_0.length < 1)=true:=decide_eq_true (by omega);clear c5
   (first|rw [c5b0]|(simp only [i64_w,i32_w];rw [c5b0])|skip)
   have H':=A0_.mk H
   clear H;go_wp2
   go_meet
   case rel=>exact ⟨_,(true),(by first|rfl|(simp;done)|(simp [*];done)),H',⟨by first|omega|exact Nat.le_refl _⟩,⟨by (with_reducible repeat first|apply bkN|apply bkD|apply bkA);exact BK112.out⟩,⟨by repeat (first|(with_reducible first|exact HB.out|apply bal|apply pdN|apply bdr|refine bst ?_ GE112.out)|exact HB.out)⟩⟩
  ·rw [if_neg c5] at H
   have c5b0:decide ((l0_0.length:Int) < 1)=false:=decide_eq_false c5;have c5b1:decide (l0_0.length < 1)=false:=decide_eq_false (by omega);clear c5
   (first|rw [c5b0]|(simp only [i64_w,i32_w];rw [c5b0])|skip)
   have H':=A0_.mk H
   clear H;go_wp2
   go_meet
   case rel=>exact ⟨_,(decide ((l0_0.length:Int) > 200)),(by first|rfl|(simp;done)|(simp [*];done)),H',⟨by first|omega|exact Nat.le_refl _⟩,⟨by (with_reducible repeat first|apply bkN|apply bkD|apply bkA);exact BK112.out⟩,⟨by repeat (first|(with_reducible first|exact HB.out|apply bal|apply pdN|apply bdr|refine bst ?_ GE112.out)|exact HB.out)⟩⟩
 case rest=>
  clear HC2;(try clear c2);(try clear p2);(try clear c5);(try clear c5b0);(try clear c5b1);(try clear hcz4_0);(try clear hfz4_0);obtain ⟨kq,x20_1,rfl,HA,HJ1,BK112,HB⟩:=hcut
  cases kq with
  |zero=>exact absurd HA.out (by simp [iFO.j0])
  |succ kj1=>
   have H:=HA.out;clear HA;simp only [iFO.j0] at H
   by_cases c6:x20_1=true
   ·subst c6
    have H1:(some 1)=some r:=by rw [if_pos rfl] at H;exact H
    clear H;have H:=H1;clear H1
    obtain rfl:=Option.some.inj H
    go_wp2;go_ret
    exact ⟨by first|rfl|(simp [errW_none,errW_some] <;> rfl)|(simp [*,errW_none,errW_some] <;> rfl),by repeat (first|(with_reducible first|exact HB.out|apply bal|apply pdN|apply bdr|refine bst ?_ GE112.out)|exact HB.out)⟩
   ·replace c6:=Bool.eq_false_iff.mpr c6
    subst c6;have H1:(if 0 < (l0_0.length:Int) then (if (!(((rT l0_0 0).f0)==(-1)) || (!((((rT l0_0 0).f1).toList)==([]:List UInt8)) || (!(((rT l0_0 0).f2)==0))))=true then (some 2) else (if 1≤(l0_0.length:Int) then ((some (l0_0.drop 1:List (S75))).bind fun y114=>(iFO.l0 kj1 y114 (y114.length:Int) 0 l0_0)) else (none))) else (none))=some r:=by rw [if_neg (show ¬ (false=true) by decide)] at H;exact H
    clear H;have H:=H1;clear H1
    by_cases c7:0 < (l0_0.length:Int)
    ·rw [if_pos c7] at H
     have c7b0:decide (0 < (l0_0.length:Int))=true:=decide_eq_true c7;have c7b1:decide (0 < l0_0.length)=true:=decide_eq_true (by omega);clear c7
     by_cases c8:(!(((rT l0_0 0).f0)==(-1)) || (!((((rT l0_0 0).f1).toList)==([]:List UInt8)) || (!(((rT l0_0 0).f2)==0))))=true
     ·rw [if_pos c8] at H
      have c8b0:(!(((rT l0_0 0).f0)==(-1)) || (!((((rT l0_0 0).f1).toList)==([]:List UInt8)) || (!(((rT l0_0 0).f2)==0))))=true:=c8;clear c8
      obtain rfl:=Option.some.inj H
      have hcz9_0:wc.cell? ⟨gb112,0,none⟩=some (.slice A0_0 l0_0.length c0_0):=(bkC BK112.out 0).trans rfl
      have hfz9_0:=bkF BK112.out 0;have p113:0≤(0:Int):=(by omega)
      have q113:0 < (l0_0.length:Int):=of_decide_eq_true (by first|(with_reducible assumption)|assumption)
      obtain ⟨ad113,e113,hx113_0,hx113_1,hx113_2⟩:=at_T75 HR0_0.out 0 p113 q113;cases e113;have qi113:(0 < l0_0.length)=True:=eq_true (by omega)
      (try rw [show ((0:Int)).toNat=0 from rfl] at hx113_0)
      (try rw [show 0 * 3=0 from rfl] at hx113_0)
      (try rw [Addr.add_zero'] at hx113_0)
      (try rw [show ((0:Int)).toNat=0 from rfl] at hx113_1)
      (try rw [show 0 * 3=0 from rfl] at hx113_1)
      (try rw [Addr.add_zero'] at hx113_1)
      (try rw [show ((0:Int)).toNat=0 from rfl] at hx113_2)
      (try rw [show 0 * 3=0 from rfl] at hx113_2)
      (try rw [Addr.add_zero'] at hx113_2)
      replace hx113_0:=(HB.out.cell (World.block_lt_of_cell? w _ hx113_0)).trans hx113_0;replace hx113_1:=(HB.out.cell (World.block_lt_of_cell? w _ hx113_1)).trans hx113_1;replace hx113_2:=(HB.out.cell (World.block_lt_of_cell? w _ hx113_2)).trans hx113_2;replace p113:=eq_true p113;replace q113:=eq_true q113
      by_cases d0:((rT l0_0 0).f0 = -1)
      ·by_cases d1:((rT l0_0 0).f1.toList=[])
       ·have d2:¬ ((rT l0_0 0).f2=0):=by intro h_;simp [d0,d1,h_] at c8b0
        go_wp2;go_ret
        exact ⟨by first|rfl|(simp [errW_none,errW_some] <;> rfl)|(simp [*,errW_none,errW_some] <;> rfl),by repeat (first|(with_reducible first|exact HB.out|apply bal|apply pdN|apply bdr|refine bst ?_ GE112.out)|exact HB.out)⟩
       ·go_wp2
        go_ret;exact ⟨by first|rfl|(simp [errW_none,errW_some] <;> rfl)|(simp [*,errW_none,errW_some] <;> rfl),by repeat (first|(with_reducible first|exact HB.out|apply bal|apply pdN|apply bdr|refine bst ?_ GE112.out)|exact HB.out)⟩
      ·go_wp2
       go_ret;exact ⟨by first|rfl|(simp [errW_none,errW_some] <;> rfl)|(simp [*,errW_none,errW_some] <;> rfl),by repeat (first|(with_reducible first|exact HB.out|apply bal|apply pdN|apply bdr|refine bst ?_ GE112.out)|exact HB.out)⟩
     ·rw [if_neg c8] at H
      have c8b0:(!(((rT l0_0 0).f0)==(-1)) || (!((((rT l0_0 0).f1).toList)==([]:List UInt8)) || (!(((rT l0_0 0).f2)==0))))=false:=by simpa using c8
      have d012:((rT l0_0 0).f0 = -1)∧((rT l0_0 0).f1.toList=[])∧((rT l0_0 0).f2=0):=by simpa using c8b0
      obtain ⟨d0,d1,d2⟩:=d012;clear c8
      by_cases c10:1≤(l0_0.length:Int)
      ·rw [if_pos c10] at H
       have c10b0:=eq_true c10;have c10b1:decide (1≤(l0_0.length:Int))=true:=decide_eq_true c10;clear c10;obtain ⟨y114,hy114⟩:∃ y_:List (S75),y_=(l0_0.drop 1):=⟨_,rfl⟩
       replace H:(iFO.l0 kj1 y114 (y114.length:Int) 0 l0_0)=some r:=by first|(rw [hy114];with_reducible exact H)|(have H2_:=(Option.bind_some _ _).symm.trans H;rw [hy114];with_reducible exact H2_)|(have H2_:=(Option.bind_some _ _).symm.trans H;with_reducible exact H2_)|with_reducible exact H|(rw [hy114];exact H)|exact H
       have Ny114:=A0_.mk hy114;clear hy114
       have H':=A0_.mk H
       clear H;have hcz11_0:wc.cell? ⟨gb112,0,none⟩=some (.slice A0_0 l0_0.length c0_0):=(bkC BK112.out 0).trans rfl
       have hfz11_0:=bkF BK112.out 0;have p113:0≤(0:Int):=(by omega)
       have q113:0 < (l0_0.length:Int):=of_decide_eq_true (by first|(with_reducible assumption)|assumption)
       obtain ⟨ad113,e113,hx113_0,hx113_1,hx113_2⟩:=at_T75 HR0_0.out 0 p113 q113;cases e113;have qi113:(0 < l0_0.length)=True:=eq_true (by omega)
       (try rw [show ((0:Int)).toNat=0 from rfl] at hx113_0)
       (try rw [show 0 * 3=0 from rfl] at hx113_0)
       (try rw [Addr.add_zero'] at hx113_0)
       (try rw [show ((0:Int)).toNat=0 from rfl] at hx113_1)
       (try rw [show 0 * 3=0 from rfl] at hx113_1)
       (try rw [Addr.add_zero'] at hx113_1)
       (try rw [show ((0:Int)).toNat=0 from rfl] at hx113_2)
       (try rw [show 0 * 3=0 from rfl] at hx113_2)
       (try rw [Addr.add_zero'] at hx113_2)
       replace hx113_0:=(HB.out.cell (World.block_lt_of_cell? w _ hx113_0)).trans hx113_0;replace hx113_1:=(HB.out.cell (World.block_lt_of_cell? w _ hx113_1)).trans hx113_1;replace hx113_2:=(HB.out.cell (World.block_lt_of_cell? w _ hx113_2)).trans hx113_2;replace p113:=eq_true p113;replace q113:=eq_true q113;have q12:(1:Int)≤((l0_0.length:Int):Int):=of_decide_eq_true (by first|(with_reducible assumption)|assumption)
       obtain ⟨i012,hi012,_,hsz12,_⟩:=info_parts info75;have hroom12:l0_0.length≤c0_0:=HC0_0.out;have hC12:Kd.C k75 _ (some ad113) l0_0.length l0_0:=HR0_0.out;have hcut12:=cut_from (P:=Try.prog) 34 75 .i64 Try.underlying34 hi012 3 hsz12 (some ad113) l0_0.length c0_0 1 (by omega) q12;have hr12:=Kd.C_drop (m:=(1:Int).toNat) (c:=c0_0) hC12 (by omega) hroom12;obtain ⟨A12,hA12⟩:∃ A1,A1=(if c0_0=(1:Int).toNat then (some ad113) else ((some ad113):Option Addr).map (·.add ((1:Int).toNat * 3))):=⟨_,rfl⟩
       obtain ⟨c12,hc12⟩:∃ c1,c1=c0_0 - (1:Int).toNat:=⟨_,rfl⟩
       have hy12:y114.length=l0_0.length - (1:Int).toNat:=(by rw [Ny114.out,List.length_drop] <;> omega);rw [show (l0_0).drop (1:Int).toNat=y114 from Ny114.out.symm] at hr12
       replace hr12:Kd.C k75 _ A12 y114.length y114:=(by rw [hA12];exact hr12)
       rw [← hy12,← hA12,← hc12] at hcut12;have HR117:=A0_.mk hr12;have HC117:=A0_.mk (show y114.length≤c12 from by rw [hy12,hc12];exact Nat.sub_le_sub_right hroom12 _);clear hr12 hC12 hroom12 hi012 hsz12 hc12;have KY12:=A0_.mk hy12;have KA12:=A0_.mk hA12;clear hy12 hA12;replace q12:=eq_true q12;go_wp2
       go_loopg [31] kj1 (fun kq v31 w'=>∃ (x31_2:Int),v31=.int .i64 x31_2∧A0_ (iFO.l0 kq y114 (y114.length:Int) x31_2 l0_0=some r)∧A0_ (kq≤kj1)∧A0_ (w'.heap[gb112]? = some (.cells #[(.slice (some ad113) l0_0.length c0_0)] 36 (0,0)))∧A0_ (Below w.heap.size w w'))
       case atStart=>exact ⟨(0),(by first|rfl|(simp;done)|(simp [*];done)),H',⟨Nat.le_refl _⟩,⟨by (with_reducible repeat first|apply bkN|apply bkD|apply bkA);exact BK112.out⟩,⟨by repeat (first|(with_reducible first|exact HB.out|apply bal|apply pdN|apply bdr|refine bst ?_ GE112.out)|exact HB.out)⟩⟩
       case round=>
        clear H';(try clear c1);(try clear p1);(try clear q1);(try clear hx1);(try clear qi1);(try clear c2);(try clear p2);(try clear c5);(try clear c5b0);(try clear c5b1);(try clear c6);(try clear c7);(try clear c7b0);(try clear c7b1);(try clear c8);(try clear c8b0);(try clear c10);(try clear c10b0);(try clear c10b1);(try clear p11);(try clear q11);(try clear hx11);(try clear qi11);(try clear c12);(try clear q12);(try clear hcz11_0);(try clear hcz4_0);(try clear hcz9_0);(try clear hfz11_0);(try clear hfz4_0);(try clear hfz9_0);(try clear hx113_0);(try clear hx113_1);(try clear hx113_2);(try clear p113);(try clear p2);(try clear q113);(try clear q12);obtain ⟨x31_2,rfl,HA,HK2,BK112,HB⟩:=hrel
        cases gk with
        |zero=>exact absurd HA.out (by simp [iFO.l0])
        |succ k2=>
         have H:=HA.out;clear HA;simp only [iFO.l0] at H
         by_cases c13:x31_2 < (y114.length:Int)
         ·rw [if_pos c13] at H
          have c13b0:decide (x31_2 < (y114.length:Int))=true:=decide_eq_true c13;clear c13
          by_cases c14:0≤x31_2
          ·rw [if_pos c14] at H
           have c14b0:decide (0≤x31_2)=true:=decide_eq_true c14;clear c14
           by_cases c15:x31_2 < (y114.length:Int)
           ·rw [if_pos c15] at H
            have c15b0:decide (x31_2 < (y114.length:Int))=true:=decide_eq_true c15;clear c15
            by_cases c16:((rT y114 x31_2).f0) < 0
            ·rw [if_pos c16] at H
             have c16b0:decide (((rT y114 x31_2).f0) < 0)=true:=decide_eq_true c16;clear c16
             obtain rfl:=Option.some.inj H
             have p118:0≤(x31_2:Int):=of_decide_eq_true (by first|(with_reducible assumption)|assumption)
             have q118:x31_2 < (y114.length:Int):=of_decide_eq_true (by first|(with_reducible assumption)|assumption);obtain ⟨ad118,e118,hx118_0,hx118_1,hx118_2⟩:=at_T75 HR117.out x31_2 p118 q118;cases e118;replace hx118_0:=(HB.out.cell (World.block_lt_of_cell? w _ hx118_0)).trans hx118_0;replace hx118_1:=(HB.out.cell (World.block_lt_of_cell? w _ hx118_1)).trans hx118_1;replace hx118_2:=(HB.out.cell (World.block_lt_of_cell? w _ hx118_2)).trans hx118_2;replace p118:=eq_true p118;replace q118:=eq_true q118
             try go_wp2_with (first|((with_reducible refine gtD (N:=5) rfl ?_);(try (refine gtG (by rfl) ?_;dsimp only));refine bxE ?hg (N:=5) ?hd (cs:=#[.int .i64 0,.string (⟨#[]⟩:ByteArray),.int .i64 0]) (t:=75) ?hr ?_;(case hd=>rfl);(case hg=>rfl);(case hr=>first|(go_simp;done)|(go_simp;rfl));intro gb119 hg w17 hbox hb;have n0_:=A0_.mk (bkB (g:=gb112) (o:=.cells #[.slice (some ad113) l0_0.length c0_0] 36 (0,0)) (by (with_reducible repeat first|apply bkN|apply bkD|apply bkA);exact BK112.out) hb);have n1_:=A0_.mk (bsp (by repeat (first|(with_reducible first|exact HB.out|apply bal|apply pdN|apply bdr|refine bst ?_ GE112.out)|exact HB.out)) hb);have n2_:=A0_.mk (hbox);have n3_:=A0_.mk ((by rw [hg];exact (bsz (by repeat (first|(with_reducible first|exact HB.out|apply bal|apply pdN|apply bdr|refine bst ?_ GE112.out)|exact HB.out))):w.heap.size≤gb119));have n4_:=A0_.mk ((by rw [hg];exact (bsz (by repeat (first|(with_reducible first|exact HB.out|apply bal|apply pdN|apply bdr|refine bst ?_ GE112.out)|exact HB.out))):w.heap.size≤gb119));have n5_:=A0_.mk ((by rw [hg];exact Nat.ne_of_lt (blk_lt (g:=gb112) (o:=.cells #[.slice (some ad113) l0_0.length c0_0] 36 (0,0)) (by (with_reducible repeat first|apply bkN|apply bkD|apply bkA);exact BK112.out)):gb112≠gb119));have n6_:=A0_.mk ((by rw [hg];exact Nat.ne_of_gt (blk_lt (g:=gb112) (o:=.cells #[.slice (some ad113) l0_0.length c0_0] 36 (0,0)) (by (with_reducible repeat first|apply bkN|apply bkD|apply bkA);exact BK112.out)):gb119≠gb112));clear BK112;clear HB;have BK112:=n0_;have HB:=n1_;have BK119:=n2_;have GW119:=n3_;have GE119:=n4_;have NB112_119:=n5_;have NB119_112:=n6_;clear n0_ n1_ n2_ n3_ n4_ n5_ n6_;clear hb hbox hg;have hnb18:=NB119_112.out;have hnc18:=NB112_119.out;have hcz19_0:w17.cell? ⟨gb119,0,none⟩=some (.int .i64 0):=(bkC BK119.out 0).trans rfl;have hcz19_1:w17.cell? ⟨gb119,1,none⟩=some (.string (⟨#[]⟩:ByteArray)):=(bkC BK119.out 1).trans rfl;have hcz19_2:w17.cell? ⟨gb119,2,none⟩=some (.int .i64 0):=(bkC BK119.out 2).trans rfl;have hfz19_0:=bkF BK119.out 0;have hfz19_1:=bkF BK119.out 1;have hfz19_2:=bkF BK119.out 2))
             have n0_:A0_ ((((w17.setCell ⟨gb119,0,none⟩ (.int .i64 ((rT y114 x31_2).f0))).setCell ⟨gb119,1,none⟩ (.string ((rT y114 x31_2).f1))).setCell ⟨gb119,2,none⟩ (.int .i64 ((rT y114 x31_2).f2))).heap[gb112]? = some (.cells #[.slice (some ad113) l0_0.length c0_0] 36 (0,0))):=⟨by (with_reducible repeat first|apply bkN|apply bkD|apply bkA);refine bkf ?_ NB112_119.out _;(with_reducible repeat first|apply bkN|apply bkD|apply bkA);refine bkf ?_ NB112_119.out _;(with_reducible repeat first|apply bkN|apply bkD|apply bkA);refine bkf ?_ NB112_119.out _;(with_reducible repeat first|apply bkN|apply bkD|apply bkA);exact BK112.out⟩;have n1_:A0_ ((((w17.setCell ⟨gb119,0,none⟩ (.int .i64 ((rT y114 x31_2).f0))).setCell ⟨gb119,1,none⟩ (.string ((rT y114 x31_2).f1))).setCell ⟨gb119,2,none⟩ (.int .i64 ((rT y114 x31_2).f2))).heap[gb119]? = some (.cells #[.int .i64 ((rT y114 x31_2).f0),.string ((rT y114 x31_2).f1),.int .i64 ((rT y114 x31_2).f2)] 75 (0,0))):=⟨by (with_reducible repeat first|apply bkN|apply bkD|apply bkA);refine bkP (cs:=#[.int .i64 ((rT y114 x31_2).f0),.string ((rT y114 x31_2).f1),.int .i64 0]) ?_ 2 _ rfl;(with_reducible repeat first|apply bkN|apply bkD|apply bkA);refine bkP (cs:=#[.int .i64 ((rT y114 x31_2).f0),.string (⟨#[]⟩:ByteArray),.int .i64 0]) ?_ 1 _ rfl;(with_reducible repeat first|apply bkN|apply bkD|apply bkA);refine bkP (cs:=#[.int .i64 0,.string (⟨#[]⟩:ByteArray),.int .i64 0]) ?_ 0 _ rfl;(with_reducible repeat first|apply bkN|apply bkD|apply bkA);exact BK119.out⟩;have n2_:A0_ (Below w.heap.size w (((w17.setCell ⟨gb119,0,none⟩ (.int .i64 ((rT y114 x31_2).f0))).setCell ⟨gb119,1,none⟩ (.string ((rT y114 x31_2).f1))).setCell ⟨gb119,2,none⟩ (.int .i64 ((rT y114 x31_2).f2)))):=⟨by repeat (first|(with_reducible first|exact HB.out|apply bal|apply pdN|apply bdr|refine bst ?_ GE112.out|refine bst ?_ GE119.out)|exact HB.out)⟩;(try clear BK112);(try clear BK119);(try clear HB)
             generalize (((w17.setCell ⟨gb119,0,none⟩ (.int .i64 ((rT y114 x31_2).f0))).setCell ⟨gb119,1,none⟩ (.string ((rT y114 x31_2).f1))).setCell ⟨gb119,2,none⟩ (.int .i64 ((rT y114 x31_2).f2)))=w20 at n0_ n1_ n2_ ⊢
             have BK112:=n0_;have BK119:=n1_;have HB:=n2_;clear n0_ n1_ n2_;have n0_:=A0_.mk (bkD BK112.out);have n1_:=A0_.mk (bkD BK119.out);have n2_:=A0_.mk (bdr HB.out);clear BK112;clear BK119;clear HB;have BK112:=n0_;have BK119:=n1_;have HB:=n2_;clear n0_ n1_ n2_;refine start_ (n:=33) (S:=fun w'=>w'.cell? ⟨gb119,0,none⟩=some (.int .i64 ((rT y114 x31_2).f0))∧w'.cell? ⟨gb119,1,none⟩=some (.string ((rT y114 x31_2).f1))∧w'.cell? ⟨gb119,2,none⟩=some (.int .i64 ((rT y114 x31_2).f2))) (ds:=[]) #[n_,n_,n_,n_,n_,n_,n_,n_,n_,n_,n_,n_,n_,n_,n_,n_,n_,n_,n_,n_,n_,n_,n_,n_,n_,n_,n_,n_,n_,n_,n_,n_,n_] (by kernel_rfl) rfl rfl ⟨(bkC BK119.out 0).trans rfl,(bkC BK119.out 1).trans rfl,(bkC BK119.out 2).trans rfl⟩ (fun hHeld=>?_);refine with_tabW iFO.tab9 iFO.bits9 (fun HT_ HW_=>?_)
             generalize w20.drew=w21 at BK112 BK119 HB hHeld ⊢
             refine pure_ (i:=0) (N:=some 36) (v:=?_) (a':=?_) #[y_,n_,n_,n_,n_,n_,n_,n_,n_,n_,n_,n_,n_,n_,n_,n_,n_,n_,n_,n_,n_,n_,n_,n_,n_,n_,n_,n_,n_,n_,n_,n_,n_] rfl rfl (any_of HT_.out (by kernel_rfl)) (fun _ _ _ h=>h) (Or.inl ⟨by rfl,?_⟩) ?_ ?_;rotate_left
             ·intro w'
              go_simp;with_reducible rfl
             rotate_left
             ·simp only [Act.put,List.setIfInBounds_toArray,List.set_cons_zero,List.set_cons_succ,i64_w,i32_w]
              rfl
             refine take_ (i:=1) (N:=some 37) (v:=?_) (a':=?_) #[y_,y_,n_,n_,n_,n_,n_,n_,n_,n_,n_,n_,n_,n_,n_,n_,n_,n_,n_,n_,n_,n_,n_,n_,n_,n_,n_,n_,n_,n_,n_,n_,n_] rfl rfl (take_ofW HT_.out HW_.out (by kernel_rfl)) (fun _ _ _ h=>h) (Or.inl ⟨by rfl,?_⟩) hHeld ?_ ?_;rotate_left
             ·rintro w' ⟨s0,s1,s2⟩
              go_simp;with_reducible rfl
             rotate_left
             ·simp only [Act.put,List.setIfInBounds_toArray,List.set_cons_zero,List.set_cons_succ,i64_w,i32_w]
              rfl
             refine pure_ (i:=2) (N:=some 38) (v:=?_) (a':=?_) #[y_,y_,y_,n_,n_,n_,n_,n_,n_,n_,n_,n_,n_,n_,n_,n_,n_,n_,n_,n_,n_,n_,n_,n_,n_,n_,n_,n_,n_,n_,n_,n_,n_] rfl rfl (any_of HT_.out (by kernel_rfl)) (fun _ _ _ h=>h) (Or.inl ⟨by rfl,?_⟩) ?_ ?_;rotate_left
             ·intro w'
              go_simp;with_reducible rfl
             rotate_left
             ·simp only [Act.put,List.setIfInBounds_toArray,List.set_cons_zero,List.set_cons_succ,i64_w,i32_w]
              rfl
             refine pure_ (i:=3) (N:=some 39) (v:=?_) (a':=?_) #[y_,y_,y_,y_,n_,n_,n_,n_,n_,n_,n_,n_,n_,n_,n_,n_,n_,n_,n_,n_,n_,n_,n_,n_,n_,n_,n_,n_,n_,n_,n_,n_,n_] rfl rfl (any_of HT_.out (by kernel_rfl)) (fun _ _ _ h=>h) (Or.inl ⟨by rfl,?_⟩) ?_ ?_;rotate_left
             ·intro w'
              go_simp;with_reducible rfl
             rotate_left
             ·simp only [Act.put,List.setIfInBounds_toArray,List.set_cons_zero,List.set_cons_succ,i64_w,i32_w]
              rfl
             refine pure_ (i:=4) (N:=some 40) (v:=undef) (a':=?_) #[y_,y_,y_,y_,y_,n_,n_,n_,n_,n_,n_,n_,n_,n_,n_,n_,n_,n_,n_,n_,n_,n_,n_,n_,n_,n_,n_,n_,n_,n_,n_,n_,n_] rfl rfl (any_of HT_.out (by kernel_rfl)) (fun _ _ _ h=>h) (Or.inr ⟨by rfl,rfl⟩) ?_ ?_;rotate_left
             ·simp only [Act.put,List.setIfInBounds_toArray,List.set_cons_zero,List.set_cons_succ,i64_w,i32_w]
              rfl
             refine pure_ (i:=5) (N:=some 41) (v:=undef) (a':=?_) #[y_,y_,y_,y_,y_,y_,n_,n_,n_,n_,n_,n_,n_,n_,n_,n_,n_,n_,n_,n_,n_,n_,n_,n_,n_,n_,n_,n_,n_,n_,n_,n_,n_] rfl rfl (any_of HT_.out (by kernel_rfl)) (fun _ _ _ h=>h) (Or.inr ⟨by rfl,rfl⟩) ?_ ?_;rotate_left
             ·simp only [Act.put,List.setIfInBounds_toArray,List.set_cons_zero,List.set_cons_succ,i64_w,i32_w]
              rfl
             refine pure_ (i:=6) (N:=some 42) (v:=undef) (a':=?_) #[y_,y_,y_,y_,y_,y_,y_,n_,n_,n_,n_,n_,n_,n_,n_,n_,n_,n_,n_,n_,n_,n_,n_,n_,n_,n_,n_,n_,n_,n_,n_,n_,n_] rfl rfl (any_of HT_.out (by kernel_rfl)) (fun _ _ _ h=>h) (Or.inr ⟨by rfl,rfl⟩) ?_ ?_;rotate_left
             ·simp only [Act.put,List.setIfInBounds_toArray,List.set_cons_zero,List.set_cons_succ,i64_w,i32_w]
              rfl
             refine pure_ (i:=7) (N:=some 43) (v:=undef) (a':=?_) #[y_,y_,y_,y_,y_,y_,y_,y_,n_,n_,n_,n_,n_,n_,n_,n_,n_,n_,n_,n_,n_,n_,n_,n_,n_,n_,n_,n_,n_,n_,n_,n_,n_] rfl rfl (any_of HT_.out (by kernel_rfl)) (fun _ _ _ h=>h) (Or.inr ⟨by rfl,rfl⟩) ?_ ?_;rotate_left
             ·simp only [Act.put,List.setIfInBounds_toArray,List.set_cons_zero,List.set_cons_succ,i64_w,i32_w]
              rfl
             refine pure_ (i:=8) (N:=some 44) (v:=?_) (a':=?_) #[y_,y_,y_,y_,y_,y_,y_,y_,y_,n_,n_,n_,n_,n_,n_,n_,n_,n_,n_,n_,n_,n_,n_,n_,n_,n_,n_,n_,n_,n_,n_,n_,n_] rfl rfl (any_of HT_.out (by kernel_rfl)) (fun _ _ _ h=>h) (Or.inl ⟨by rfl,?_⟩) ?_ ?_;rotate_left
             ·intro w'
              go_simp;with_reducible rfl
             rotate_left
             ·simp only [Act.put,List.setIfInBounds_toArray,List.set_cons_zero,List.set_cons_succ,i64_w,i32_w]
              rfl
             refine pure_ (i:=9) (N:=some 45) (v:=?_) (a':=?_) #[y_,y_,y_,y_,y_,y_,y_,y_,y_,y_,n_,n_,n_,n_,n_,n_,n_,n_,n_,n_,n_,n_,n_,n_,n_,n_,n_,n_,n_,n_,n_,n_,n_] rfl rfl (any_of HT_.out (by kernel_rfl)) (fun _ _ _ h=>h) (Or.inl ⟨by rfl,?_⟩) ?_ ?_;rotate_left
             ·intro w'
              go_simp;with_reducible rfl
             rotate_left
             ·simp only [Act.put,List.setIfInBounds_toArray,List.set_cons_zero,List.set_cons_succ,i64_w,i32_w]
              rfl
             refine pure_ (i:=10) (N:=some 46) (v:=undef) (a':=?_) #[y_,y_,y_,y_,y_,y_,y_,y_,y_,y_,y_,n_,n_,n_,n_,n_,n_,n_,n_,n_,n_,n_,n_,n_,n_,n_,n_,n_,n_,n_,n_,n_,n_] rfl rfl (any_of HT_.out (by kernel_rfl)) (fun _ _ _ h=>h) (Or.inr ⟨by rfl,rfl⟩) ?_ ?_;rotate_left
             ·simp only [Act.put,List.setIfInBounds_toArray,List.set_cons_zero,List.set_cons_succ,i64_w,i32_w]
              rfl
             refine pure_ (i:=11) (N:=some 47) (v:=undef) (a':=?_) #[y_,y_,y_,y_,y_,y_,y_,y_,y_,y_,y_,y_,n_,n_,n_,n_,n_,n_,n_,n_,n_,n_,n_,n_,n_,n_,n_,n_,n_,n_,n_,n_,n_] rfl rfl (any_of HT_.out (by kernel_rfl)) (fun _ _ _ h=>h) (Or.inr ⟨by rfl,rfl⟩) ?_ ?_;rotate_left
             ·simp only [Act.put,List.setIfInBounds_toArray,List.set_cons_zero,List.set_cons_succ,i64_w,i32_w]
              rfl
             refine pure_ (i:=12) (N:=some 48) (v:=undef) (a':=?_) #[y_,y_,y_,y_,y_,y_,y_,y_,y_,y_,y_,y_,y_,n_,n_,n_,n_,n_,n_,n_,n_,n_,n_,n_,n_,n_,n_,n_,n_,n_,n_,n_,n_] rfl rfl (any_of HT_.out (by kernel_rfl)) (fun _ _ _ h=>h) (Or.inr ⟨by rfl,rfl⟩) ?_ ?_;rotate_left
             ·simp only [Act.put,List.setIfInBounds_toArray,List.set_cons_zero,List.set_cons_succ,i64_w,i32_w]
              rfl
             refine pure_ (i:=13) (N:=some 49) (v:=undef) (a':=?_) #[y_,y_,y_,y_,y_,y_,y_,y_,y_,y_,y_,y_,y_,y_,n_,n_,n_,n_,n_,n_,n_,n_,n_,n_,n_,n_,n_,n_,n_,n_,n_,n_,n_] rfl rfl (any_of HT_.out (by kernel_rfl)) (fun _ _ _ h=>h) (Or.inr ⟨by rfl,rfl⟩) ?_ ?_;rotate_left
             ·simp only [Act.put,List.setIfInBounds_toArray,List.set_cons_zero,List.set_cons_succ,i64_w,i32_w]
              rfl
             refine pure_ (i:=14) (N:=some 50) (v:=undef) (a':=?_) #[y_,y_,y_,y_,y_,y_,y_,y_,y_,y_,y_,y_,y_,y_,y_,n_,n_,n_,n_,n_,n_,n_,n_,n_,n_,n_,n_,n_,n_,n_,n_,n_,n_] rfl rfl (any_of HT_.out (by kernel_rfl)) (fun _ _ _ h=>h) (Or.inr ⟨by rfl,rfl⟩) ?_ ?_;rotate_left
             ·simp only [Act.put,List.setIfInBounds_toArray,List.set_cons_zero,List.set_cons_succ,i64_w,i32_w]
              rfl
             refine pure_ (i:=15) (N:=some 51) (v:=undef) (a':=?_) #[y_,y_,y_,y_,y_,y_,y_,y_,y_,y_,y_,y_,y_,y_,y_,y_,n_,n_,n_,n_,n_,n_,n_,n_,n_,n_,n_,n_,n_,n_,n_,n_,n_] rfl rfl (any_of HT_.out (by kernel_rfl)) (fun _ _ _ h=>h) (Or.inr ⟨by rfl,rfl⟩) ?_ ?_;rotate_left
             ·simp only [Act.put,List.setIfInBounds_toArray,List.set_cons_zero,List.set_cons_succ,i64_w,i32_w]
              rfl
             refine pure_ (i:=16) (N:=some 52) (v:=undef) (a':=?_) #[y_,y_,y_,y_,y_,y_,y_,y_,y_,y_,y_,y_,y_,y_,y_,y_,y_,n_,n_,n_,n_,n_,n_,n_,n_,n_,n_,n_,n_,n_,n_,n_,n_] rfl rfl (any_of HT_.out (by kernel_rfl)) (fun _ _ _ h=>h) (Or.inr ⟨by rfl,rfl⟩) ?_ ?_;rotate_left
             ·simp only [Act.put,List.setIfInBounds_toArray,List.set_cons_zero,List.set_cons_succ,i64_w,i32_w]
              rfl
             refine pure_ (i:=17) (N:=some 53) (v:=undef) (a':=?_) #[y_,y_,y_,y_,y_,y_,y_,y_,y_,y_,y_,y_,y_,y_,y_,y_,y_,y_,n_,n_,n_,n_,n_,n_,n_,n_,n_,n_,n_,n_,n_,n_,n_] rfl rfl (any_of HT_.out (by kernel_rfl)) (fun _ _ _ h=>h) (Or.inr ⟨by rfl,rfl⟩) ?_ ?_;rotate_left
             ·simp only [Act.put,List.setIfInBounds_toArray,List.set_cons_zero,List.set_cons_succ,i64_w,i32_w]
              rfl
             refine pure_ (i:=18) (N:=some 54) (v:=undef) (a':=?_) #[y_,y_,y_,y_,y_,y_,y_,y_,y_,y_,y_,y_,y_,y_,y_,y_,y_,y_,y_,n_,n_,n_,n_,n_,n_,n_,n_,n_,n_,n_,n_,n_,n_] rfl rfl (any_of HT_.out (by kernel_rfl)) (fun _ _ _ h=>h) (Or.inr ⟨by rfl,rfl⟩) ?_ ?_;rotate_left
             ·simp only [Act.put,List.setIfInBounds_toArray,List.set_cons_zero,List.set_cons_succ,i64_w,i32_w]
              rfl
             refine pure_ (i:=19) (N:=some 55) (v:=undef) (a':=?_) #[y_,y_,y_,y_,y_,y_,y_,y_,y_,y_,y_,y_,y_,y_,y_,y_,y_,y_,y_,y_,n_,n_,n_,n_,n_,n_,n_,n_,n_,n_,n_,n_,n_] rfl rfl (any_of HT_.out (by kernel_rfl)) (fun _ _ _ h=>h) (Or.inr ⟨by rfl,rfl⟩) ?_ ?_;rotate_left
             ·simp only [Act.put,List.setIfInBounds_toArray,List.set_cons_zero,List.set_cons_succ,i64_w,i32_w]
              rfl
             refine pure_ (i:=20) (N:=some 56) (v:=undef) (a':=?_) #[y_,y_,y_,y_,y_,y_,y_,y_,y_,y_,y_,y_,y_,y_,y_,y_,y_,y_,y_,y_,y_,n_,n_,n_,n_,n_,n_,n_,n_,n_,n_,n_,n_] rfl rfl (any_of HT_.out (by kernel_rfl)) (fun _ _ _ h=>h) (Or.inr ⟨by rfl,rfl⟩) ?_ ?_;rotate_left
             ·simp only [Act.put,List.setIfInBounds_toArray,List.set_cons_zero,List.set_cons_succ,i64_w,i32_w]
              rfl
             refine pure_ (i:=21) (N:=some 57) (v:=?_) (a':=?_) #[y_,y_,y_,y_,y_,y_,y_,y_,y_,y_,y_,y_,y_,y_,y_,y_,y_,y_,y_,y_,y_,y_,n_,n_,n_,n_,n_,n_,n_,n_,n_,n_,n_] rfl rfl (any_of HT_.out (by kernel_rfl)) (fun _ _ _ h=>h) (Or.inl ⟨by rfl,?_⟩) ?_ ?_;rotate_left
             ·intro w'
              go_simp;with_reducible rfl
             rotate_left
             ·simp only [Act.put,List.setIfInBounds_toArray,List.set_cons_zero,List.set_cons_succ,i64_w,i32_w]
              rfl
             refine pure_ (i:=22) (N:=some 58) (v:=?_) (a':=?_) #[y_,y_,y_,y_,y_,y_,y_,y_,y_,y_,y_,y_,y_,y_,y_,y_,y_,y_,y_,y_,y_,y_,y_,n_,n_,n_,n_,n_,n_,n_,n_,n_,n_] rfl rfl (any_of HT_.out (by kernel_rfl)) (fun _ _ _ h=>h) (Or.inl ⟨by rfl,?_⟩) ?_ ?_;rotate_left
             ·intro w'
              go_simp;with_reducible rfl
             rotate_left
             ·simp only [Act.put,List.setIfInBounds_toArray,List.set_cons_zero,List.set_cons_succ,i64_w,i32_w]
              rfl
             refine pure_ (i:=23) (N:=some 59) (v:=undef) (a':=?_) #[y_,y_,y_,y_,y_,y_,y_,y_,y_,y_,y_,y_,y_,y_,y_,y_,y_,y_,y_,y_,y_,y_,y_,y_,n_,n_,n_,n_,n_,n_,n_,n_,n_] rfl rfl (any_of HT_.out (by kernel_rfl)) (fun _ _ _ h=>h) (Or.inr ⟨by rfl,rfl⟩) ?_ ?_;rotate_left
             ·simp only [Act.put,List.setIfInBounds_toArray,List.set_cons_zero,List.set_cons_succ,i64_w,i32_w]
              rfl
             refine pure_ (i:=24) (N:=some 60) (v:=undef) (a':=?_) #[y_,y_,y_,y_,y_,y_,y_,y_,y_,y_,y_,y_,y_,y_,y_,y_,y_,y_,y_,y_,y_,y_,y_,y_,y_,n_,n_,n_,n_,n_,n_,n_,n_] rfl rfl (any_of HT_.out (by kernel_rfl)) (fun _ _ _ h=>h) (Or.inr ⟨by rfl,rfl⟩) ?_ ?_;rotate_left
             ·simp only [Act.put,List.setIfInBounds_toArray,List.set_cons_zero,List.set_cons_succ,i64_w,i32_w]
              rfl
             refine pure_ (i:=25) (N:=some 61) (v:=undef) (a':=?_) #[y_,y_,y_,y_,y_,y_,y_,y_,y_,y_,y_,y_,y_,y_,y_,y_,y_,y_,y_,y_,y_,y_,y_,y_,y_,y_,n_,n_,n_,n_,n_,n_,n_] rfl rfl (any_of HT_.out (by kernel_rfl)) (fun _ _ _ h=>h) (Or.inr ⟨by rfl,rfl⟩) ?_ ?_;rotate_left
             ·simp only [Act.put,List.setIfInBounds_toArray,List.set_cons_zero,List.set_cons_succ,i64_w,i32_w]
              rfl
             refine pure_ (i:=26) (N:=some 62) (v:=?_) (a':=?_) #[y_,y_,y_,y_,y_,y_,y_,y_,y_,y_,y_,y_,y_,y_,y_,y_,y_,y_,y_,y_,y_,y_,y_,y_,y_,y_,y_,n_,n_,n_,n_,n_,n_] rfl rfl (any_of HT_.out (by kernel_rfl)) (fun _ _ _ h=>h) (Or.inl ⟨by rfl,?_⟩) ?_ ?_;rotate_left
             ·intro w'
              go_simp;with_reducible rfl
             rotate_left
             ·simp only [Act.put,List.setIfInBounds_toArray,List.set_cons_zero,List.set_cons_succ,i64_w,i32_w]
              rfl
             refine pure_ (i:=27) (N:=some 63) (v:=?_) (a':=?_) #[y_,y_,y_,y_,y_,y_,y_,y_,y_,y_,y_,y_,y_,y_,y_,y_,y_,y_,y_,y_,y_,y_,y_,y_,y_,y_,y_,y_,n_,n_,n_,n_,n_] rfl rfl (any_of HT_.out (by kernel_rfl)) (fun _ _ _ h=>h) (Or.inl ⟨by rfl,?_⟩) ?_ ?_;rotate_left
             ·intro w'
              go_simp;with_reducible rfl
             rotate_left
             ·simp only [Act.put,List.setIfInBounds_toArray,List.set_cons_zero,List.set_cons_succ,i64_w,i32_w]
              rfl
             refine pure_ (i:=28) (N:=some 64) (v:=undef) (a':=?_) #[y_,y_,y_,y_,y_,y_,y_,y_,y_,y_,y_,y_,y_,y_,y_,y_,y_,y_,y_,y_,y_,y_,y_,y_,y_,y_,y_,y_,y_,n_,n_,n_,n_] rfl rfl (any_of HT_.out (by kernel_rfl)) (fun _ _ _ h=>h) (Or.inr ⟨by rfl,rfl⟩) ?_ ?_;rotate_left
             ·simp only [Act.put,List.setIfInBounds_toArray,List.set_cons_zero,List.set_cons_succ,i64_w,i32_w]
              rfl
             refine pure_ (i:=29) (N:=some 65) (v:=undef) (a':=?_) #[y_,y_,y_,y_,y_,y_,y_,y_,y_,y_,y_,y_,y_,y_,y_,y_,y_,y_,y_,y_,y_,y_,y_,y_,y_,y_,y_,y_,y_,y_,n_,n_,n_] rfl rfl (any_of HT_.out (by kernel_rfl)) (fun _ _ _ h=>h) (Or.inr ⟨by rfl,rfl⟩) ?_ ?_;rotate_left
             ·simp only [Act.put,List.setIfInBounds_toArray,List.set_cons_zero,List.set_cons_succ,i64_w,i32_w]
              rfl
             refine pure_ (i:=30) (N:=some 66) (v:=undef) (a':=?_) #[y_,y_,y_,y_,y_,y_,y_,y_,y_,y_,y_,y_,y_,y_,y_,y_,y_,y_,y_,y_,y_,y_,y_,y_,y_,y_,y_,y_,y_,y_,y_,n_,n_] rfl rfl (any_of HT_.out (by kernel_rfl)) (fun _ _ _ h=>h) (Or.inr ⟨by rfl,rfl⟩) ?_ ?_;rotate_left
             ·simp only [Act.put,List.setIfInBounds_toArray,List.set_cons_zero,List.set_cons_succ,i64_w,i32_w]
              rfl
             refine pure_ (i:=31) (N:=some 67) (v:=undef) (a':=?_) #[y_,y_,y_,y_,y_,y_,y_,y_,y_,y_,y_,y_,y_,y_,y_,y_,y_,y_,y_,y_,y_,y_,y_,y_,y_,y_,y_,y_,y_,y_,y_,y_,n_] rfl rfl (any_of HT_.out (by kernel_rfl)) (fun _ _ _ h=>h) (Or.inr ⟨by rfl,rfl⟩) ?_ ?_;rotate_left
             ·simp only [Act.put,List.setIfInBounds_toArray,List.set_cons_zero,List.set_cons_succ,i64_w,i32_w]
              rfl
             refine pure_ (i:=32) (N:=some 68) (v:=?_) (a':=?_) #[y_,y_,y_,y_,y_,y_,y_,y_,y_,y_,y_,y_,y_,y_,y_,y_,y_,y_,y_,y_,y_,y_,y_,y_,y_,y_,y_,y_,y_,y_,y_,y_,y_] rfl rfl (any_of HT_.out (by kernel_rfl)) (fun _ _ _ h=>h) (Or.inl ⟨by rfl,?_⟩) ?_ ?_;rotate_left
             ·intro w'
              go_simp;with_reducible rfl
             rotate_left
             ·simp only [Act.put,List.setIfInBounds_toArray,List.set_cons_zero,List.set_cons_succ,i64_w,i32_w]
              rfl
             refine done_ (done_of HT_.out (by kernel_rfl)) ?_
             try go_wp2
             go_ret;exact ⟨by first|rfl|(simp [errW_none,errW_some] <;> rfl)|(simp [*,errW_none,errW_some] <;> rfl),by repeat (first|(with_reducible first|exact HB.out|apply bal|apply pdN|apply bdr|refine bst ?_ GE112.out|refine bst ?_ GE119.out)|exact HB.out)⟩
            ·rw [if_neg c16] at H
             have c16b0:decide (((rT y114 x31_2).f0) < 0)=false:=decide_eq_false c16;clear c16
             by_cases c22:((rT y114 x31_2).f0) > x31_2
             ·rw [if_pos c22] at H
              have c22b0:decide (x31_2 < ((rT y114 x31_2).f0))=true:=decide_eq_true c22;clear c22
              obtain rfl:=Option.some.inj H
              have p118:0≤(x31_2:Int):=of_decide_eq_true (by first|(with_reducible assumption)|assumption)
              have q118:x31_2 < (y114.length:Int):=of_decide_eq_true (by first|(with_reducible assumption)|assumption);obtain ⟨ad118,e118,hx118_0,hx118_1,hx118_2⟩:=at_T75 HR117.out x31_2 p118 q118;cases e118;replace hx118_0:=(HB.out.cell (World.block_lt_of_cell? w _ hx118_0)).trans hx118_0;replace hx118_1:=(HB.out.cell (World.block_lt_of_cell? w _ hx118_1)).trans hx118_1;replace hx118_2:=(HB.out.cell (World.block_lt_of_cell? w _ hx118_2)).trans hx118_2;replace p118:=eq_true p118;replace q118:=eq_true q118
              try go_wp2_with (first|((with_reducible refine gtD (N:=5) rfl ?_);(try (refine gtG (by rfl) ?_;dsimp only));refine bxE ?hg (N:=5) ?hd (cs:=#[.int .i64 0,.string (⟨#[]⟩:ByteArray),.int .i64 0]) (t:=75) ?hr ?_;(case hd=>rfl);(case hg=>rfl);(case hr=>first|(go_simp;done)|(go_simp;rfl));intro gb119 hg w23 hbox hb;have n0_:=A0_.mk (bkB (g:=gb112) (o:=.cells #[.slice (some ad113) l0_0.length c0_0] 36 (0,0)) (by (with_reducible repeat first|apply bkN|apply bkD|apply bkA);exact BK112.out) hb);have n1_:=A0_.mk (bsp (by repeat (first|(with_reducible first|exact HB.out|apply bal|apply pdN|apply bdr|refine bst ?_ GE112.out)|exact HB.out)) hb);have n2_:=A0_.mk (hbox);have n3_:=A0_.mk ((by rw [hg];exact (bsz (by repeat (first|(with_reducible first|exact HB.out|apply bal|apply pdN|apply bdr|refine bst ?_ GE112.out)|exact HB.out))):w.heap.size≤gb119));have n4_:=A0_.mk ((by rw [hg];exact (bsz (by repeat (first|(with_reducible first|exact HB.out|apply bal|apply pdN|apply bdr|refine bst ?_ GE112.out)|exact HB.out))):w.heap.size≤gb119));have n5_:=A0_.mk ((by rw [hg];exact Nat.ne_of_lt (blk_lt (g:=gb112) (o:=.cells #[.slice (some ad113) l0_0.length c0_0] 36 (0,0)) (by (with_reducible repeat first|apply bkN|apply bkD|apply bkA);exact BK112.out)):gb112≠gb119));have n6_:=A0_.mk ((by rw [hg];exact Nat.ne_of_gt (blk_lt (g:=gb112) (o:=.cells #[.slice (some ad113) l0_0.length c0_0] 36 (0,0)) (by (with_reducible repeat first|apply bkN|apply bkD|apply bkA);exact BK112.out)):gb119≠gb112));clear BK112;clear HB;have BK112:=n0_;have HB:=n1_;have BK119:=n2_;have GW119:=n3_;have GE119:=n4_;have NB112_119:=n5_;have NB119_112:=n6_;clear n0_ n1_ n2_ n3_ n4_ n5_ n6_;clear hb hbox hg;have hnb24:=NB119_112.out;have hnc24:=NB112_119.out;have hcz25_0:w23.cell? ⟨gb119,0,none⟩=some (.int .i64 0):=(bkC BK119.out 0).trans rfl;have hcz25_1:w23.cell? ⟨gb119,1,none⟩=some (.string (⟨#[]⟩:ByteArray)):=(bkC BK119.out 1).trans rfl;have hcz25_2:w23.cell? ⟨gb119,2,none⟩=some (.int .i64 0):=(bkC BK119.out 2).trans rfl;have hfz25_0:=bkF BK119.out 0;have hfz25_1:=bkF BK119.out 1;have hfz25_2:=bkF BK119.out 2))
              have n0_:A0_ ((((w23.setCell ⟨gb119,0,none⟩ (.int .i64 ((rT y114 x31_2).f0))).setCell ⟨gb119,1,none⟩ (.string ((rT y114 x31_2).f1))).setCell ⟨gb119,2,none⟩ (.int .i64 ((rT y114 x31_2).f2))).heap[gb112]? = some (.cells #[.slice (some ad113) l0_0.length c0_0] 36 (0,0))):=⟨by (with_reducible repeat first|apply bkN|apply bkD|apply bkA);refine bkf ?_ NB112_119.out _;(with_reducible repeat first|apply bkN|apply bkD|apply bkA);refine bkf ?_ NB112_119.out _;(with_reducible repeat first|apply bkN|apply bkD|apply bkA);refine bkf ?_ NB112_119.out _;(with_reducible repeat first|apply bkN|apply bkD|apply bkA);exact BK112.out⟩;have n1_:A0_ ((((w23.setCell ⟨gb119,0,none⟩ (.int .i64 ((rT y114 x31_2).f0))).setCell ⟨gb119,1,none⟩ (.string ((rT y114 x31_2).f1))).setCell ⟨gb119,2,none⟩ (.int .i64 ((rT y114 x31_2).f2))).heap[gb119]? = some (.cells #[.int .i64 ((rT y114 x31_2).f0),.string ((rT y114 x31_2).f1),.int .i64 ((rT y114 x31_2).f2)] 75 (0,0))):=⟨by (with_reducible repeat first|apply bkN|apply bkD|apply bkA);refine bkP (cs:=#[.int .i64 ((rT y114 x31_2).f0),.string ((rT y114 x31_2).f1),.int .i64 0]) ?_ 2 _ rfl;(with_reducible repeat first|apply bkN|apply bkD|apply bkA);refine bkP (cs:=#[.int .i64 ((rT y114 x31_2).f0),.string (⟨#[]⟩:ByteArray),.int .i64 0]) ?_ 1 _ rfl;(with_reducible repeat first|apply bkN|apply bkD|apply bkA);refine bkP (cs:=#[.int .i64 0,.string (⟨#[]⟩:ByteArray),.int .i64 0]) ?_ 0 _ rfl;(with_reducible repeat first|apply bkN|apply bkD|apply bkA);exact BK119.out⟩;have n2_:A0_ (Below w.heap.size w (((w23.setCell ⟨gb119,0,none⟩ (.int .i64 ((rT y114 x31_2).f0))).setCell ⟨gb119,1,none⟩ (.string ((rT y114 x31_2).f1))).setCell ⟨gb119,2,none⟩ (.int .i64 ((rT y114 x31_2).f2)))):=⟨by repeat (first|(with_reducible first|exact HB.out|apply bal|apply pdN|apply bdr|refine bst ?_ GE112.out|refine bst ?_ GE119.out)|exact HB.out)⟩;(try clear BK112);(try clear BK119);(try clear HB)
              generalize (((w23.setCell ⟨gb119,0,none⟩ (.int .i64 ((rT y114 x31_2).f0))).setCell ⟨gb119,1,none⟩ (.string ((rT y114 x31_2).f1))).setCell ⟨gb119,2,none⟩ (.int .i64 ((rT y114 x31_2).f2)))=w26 at n0_ n1_ n2_ ⊢
              have BK112:=n0_;have BK119:=n1_;have HB:=n2_;clear n0_ n1_ n2_;have n0_:=A0_.mk (bkD BK112.out);have n1_:=A0_.mk (bkD BK119.out);have n2_:=A0_.mk (bdr HB.out);clear BK112;clear BK119;clear HB;have BK112:=n0_;have BK119:=n1_;have HB:=n2_;clear n0_ n1_ n2_;refine start_ (n:=33) (S:=fun w'=>w'.cell? ⟨gb119,0,none⟩=some (.int .i64 ((rT y114 x31_2).f0))∧w'.cell? ⟨gb119,1,none⟩=some (.string ((rT y114 x31_2).f1))∧w'.cell? ⟨gb119,2,none⟩=some (.int .i64 ((rT y114 x31_2).f2))) (ds:=[]) #[n_,n_,n_,n_,n_,n_,n_,n_,n_,n_,n_,n_,n_,n_,n_,n_,n_,n_,n_,n_,n_,n_,n_,n_,n_,n_,n_,n_,n_,n_,n_,n_,n_] (by kernel_rfl) rfl rfl ⟨(bkC BK119.out 0).trans rfl,(bkC BK119.out 1).trans rfl,(bkC BK119.out 2).trans rfl⟩ (fun hHeld=>?_);refine with_tabW iFO.tab9 iFO.bits9 (fun HT_ HW_=>?_)
              generalize w26.drew=w27 at BK112 BK119 HB hHeld ⊢
              refine pure_ (i:=0) (N:=some 36) (v:=?_) (a':=?_) #[y_,n_,n_,n_,n_,n_,n_,n_,n_,n_,n_,n_,n_,n_,n_,n_,n_,n_,n_,n_,n_,n_,n_,n_,n_,n_,n_,n_,n_,n_,n_,n_,n_] rfl rfl (any_of HT_.out (by kernel_rfl)) (fun _ _ _ h=>h) (Or.inl ⟨by rfl,?_⟩) ?_ ?_;rotate_left
              ·intro w'
               go_simp;with_reducible rfl
              rotate_left
              ·simp only [Act.put,List.setIfInBounds_toArray,List.set_cons_zero,List.set_cons_succ,i64_w,i32_w]
               rfl
              refine take_ (i:=1) (N:=some 37) (v:=?_) (a':=?_) #[y_,y_,n_,n_,n_,n_,n_,n_,n_,n_,n_,n_,n_,n_,n_,n_,n_,n_,n_,n_,n_,n_,n_,n_,n_,n_,n_,n_,n_,n_,n_,n_,n_] rfl rfl (take_ofW HT_.out HW_.out (by kernel_rfl)) (fun _ _ _ h=>h) (Or.inl ⟨by rfl,?_⟩) hHeld ?_ ?_;rotate_left
              ·rintro w' ⟨s0,s1,s2⟩
               go_simp;with_reducible rfl
              rotate_left
              ·simp only [Act.put,List.setIfInBounds_toArray,List.set_cons_zero,List.set_cons_succ,i64_w,i32_w]
               rfl
              refine pure_ (i:=2) (N:=some 38) (v:=?_) (a':=?_) #[y_,y_,y_,n_,n_,n_,n_,n_,n_,n_,n_,n_,n_,n_,n_,n_,n_,n_,n_,n_,n_,n_,n_,n_,n_,n_,n_,n_,n_,n_,n_,n_,n_] rfl rfl (any_of HT_.out (by kernel_rfl)) (fun _ _ _ h=>h) (Or.inl ⟨by rfl,?_⟩) ?_ ?_;rotate_left
              ·intro w'
               go_simp;with_reducible rfl
              rotate_left
              ·simp only [Act.put,List.setIfInBounds_toArray,List.set_cons_zero,List.set_cons_succ,i64_w,i32_w]
               rfl
              refine pure_ (i:=3) (N:=some 39) (v:=?_) (a':=?_) #[y_,y_,y_,y_,n_,n_,n_,n_,n_,n_,n_,n_,n_,n_,n_,n_,n_,n_,n_,n_,n_,n_,n_,n_,n_,n_,n_,n_,n_,n_,n_,n_,n_] rfl rfl (any_of HT_.out (by kernel_rfl)) (fun _ _ _ h=>h) (Or.inl ⟨by rfl,?_⟩) ?_ ?_;rotate_left
              ·intro w'
               go_simp;with_reducible rfl
              rotate_left
              ·simp only [Act.put,List.setIfInBounds_toArray,List.set_cons_zero,List.set_cons_succ,i64_w,i32_w]
               rfl
              refine pure_ (i:=4) (N:=some 40) (v:=?_) (a':=?_) #[y_,y_,y_,y_,y_,n_,n_,n_,n_,n_,n_,n_,n_,n_,n_,n_,n_,n_,n_,n_,n_,n_,n_,n_,n_,n_,n_,n_,n_,n_,n_,n_,n_] rfl rfl (any_of HT_.out (by kernel_rfl)) (fun _ _ _ h=>h) (Or.inl ⟨by rfl,?_⟩) ?_ ?_;rotate_left
              ·intro w'
               go_simp;with_reducible rfl
              rotate_left
              ·simp only [Act.put,List.setIfInBounds_toArray,List.set_cons_zero,List.set_cons_succ,i64_w,i32_w]
               rfl
              refine pure_ (i:=6) (N:=some 42) (v:=?_) (a':=?_) #[y_,y_,y_,y_,y_,n_,y_,n_,n_,n_,n_,n_,n_,n_,n_,n_,n_,n_,n_,n_,n_,n_,n_,n_,n_,n_,n_,n_,n_,n_,n_,n_,n_] rfl rfl (any_of HT_.out (by kernel_rfl)) (fun _ _ _ h=>h) (Or.inl ⟨by rfl,?_⟩) ?_ ?_;rotate_left
              ·intro w'
               go_simp;with_reducible rfl
              rotate_left
              ·simp only [Act.put,List.setIfInBounds_toArray,List.set_cons_zero,List.set_cons_succ,i64_w,i32_w]
               rfl
              refine take_ (i:=5) (N:=some 41) (v:=?_) (a':=?_) #[y_,y_,y_,y_,y_,y_,y_,n_,n_,n_,n_,n_,n_,n_,n_,n_,n_,n_,n_,n_,n_,n_,n_,n_,n_,n_,n_,n_,n_,n_,n_,n_,n_] rfl rfl (take_ofW HT_.out HW_.out (by kernel_rfl)) (fun _ _ _ h=>h) (Or.inl ⟨by rfl,?_⟩) hHeld ?_ ?_;rotate_left
              ·rintro w' ⟨s0,s1,s2⟩
               go_simp;with_reducible rfl
              rotate_left
              ·simp only [Act.put,List.setIfInBounds_toArray,List.set_cons_zero,List.set_cons_succ,i64_w,i32_w]
               rfl
              refine pure_ (i:=7) (N:=some 43) (v:=?_) (a':=?_) #[y_,y_,y_,y_,y_,y_,y_,y_,n_,n_,n_,n_,n_,n_,n_,n_,n_,n_,n_,n_,n_,n_,n_,n_,n_,n_,n_,n_,n_,n_,n_,n_,n_] rfl rfl (any_of HT_.out (by kernel_rfl)) (fun _ _ _ h=>h) (Or.inl ⟨by rfl,?_⟩) ?_ ?_;rotate_left
              ·intro w'
               go_simp;with_reducible rfl
              rotate_left
              ·simp only [Act.put,List.setIfInBounds_toArray,List.set_cons_zero,List.set_cons_succ,i64_w,i32_w]
               rfl
              refine pure_ (i:=8) (N:=some 44) (v:=?_) (a':=?_) #[y_,y_,y_,y_,y_,y_,y_,y_,y_,n_,n_,n_,n_,n_,n_,n_,n_,n_,n_,n_,n_,n_,n_,n_,n_,n_,n_,n_,n_,n_,n_,n_,n_] rfl rfl (any_of HT_.out (by kernel_rfl)) (fun _ _ _ h=>h) (Or.inl ⟨by rfl,?_⟩) ?_ ?_;rotate_left
              ·intro w'
               go_simp;with_reducible rfl
              rotate_left
              ·simp only [Act.put,List.setIfInBounds_toArray,List.set_cons_zero,List.set_cons_succ,i64_w,i32_w]
               rfl
              refine pure_ (i:=9) (N:=some 45) (v:=?_) (a':=?_) #[y_,y_,y_,y_,y_,y_,y_,y_,y_,y_,n_,n_,n_,n_,n_,n_,n_,n_,n_,n_,n_,n_,n_,n_,n_,n_,n_,n_,n_,n_,n_,n_,n_] rfl rfl (any_of HT_.out (by kernel_rfl)) (fun _ _ _ h=>h) (Or.inl ⟨by rfl,?_⟩) ?_ ?_;rotate_left
              ·intro w'
               go_simp;with_reducible rfl
              rotate_left
              ·simp only [Act.put,List.setIfInBounds_toArray,List.set_cons_zero,List.set_cons_succ,i64_w,i32_w]
               rfl
              refine pure_ (i:=10) (N:=some 46) (v:=undef) (a':=?_) #[y_,y_,y_,y_,y_,y_,y_,y_,y_,y_,y_,n_,n_,n_,n_,n_,n_,n_,n_,n_,n_,n_,n_,n_,n_,n_,n_,n_,n_,n_,n_,n_,n_] rfl rfl (any_of HT_.out (by kernel_rfl)) (fun _ _ _ h=>h) (Or.inr ⟨by rfl,rfl⟩) ?_ ?_;rotate_left
              ·simp only [Act.put,List.setIfInBounds_toArray,List.set_cons_zero,List.set_cons_succ,i64_w,i32_w]
               rfl
              refine pure_ (i:=11) (N:=some 47) (v:=undef) (a':=?_) #[y_,y_,y_,y_,y_,y_,y_,y_,y_,y_,y_,y_,n_,n_,n_,n_,n_,n_,n_,n_,n_,n_,n_,n_,n_,n_,n_,n_,n_,n_,n_,n_,n_] rfl rfl (any_of HT_.out (by kernel_rfl)) (fun _ _ _ h=>h) (Or.inr ⟨by rfl,rfl⟩) ?_ ?_;rotate_left
              ·simp only [Act.put,List.setIfInBounds_toArray,List.set_cons_zero,List.set_cons_succ,i64_w,i32_w]
               rfl
              refine pure_ (i:=12) (N:=some 48) (v:=undef) (a':=?_) #[y_,y_,y_,y_,y_,y_,y_,y_,y_,y_,y_,y_,y_,n_,n_,n_,n_,n_,n_,n_,n_,n_,n_,n_,n_,n_,n_,n_,n_,n_,n_,n_,n_] rfl rfl (any_of HT_.out (by kernel_rfl)) (fun _ _ _ h=>h) (Or.inr ⟨by rfl,rfl⟩) ?_ ?_;rotate_left
              ·simp only [Act.put,List.setIfInBounds_toArray,List.set_cons_zero,List.set_cons_succ,i64_w,i32_w]
               rfl
              refine pure_ (i:=13) (N:=some 49) (v:=undef) (a':=?_) #[y_,y_,y_,y_,y_,y_,y_,y_,y_,y_,y_,y_,y_,y_,n_,n_,n_,n_,n_,n_,n_,n_,n_,n_,n_,n_,n_,n_,n_,n_,n_,n_,n_] rfl rfl (any_of HT_.out (by kernel_rfl)) (fun _ _ _ h=>h) (Or.inr ⟨by rfl,rfl⟩) ?_ ?_;rotate_left
              ·simp only [Act.put,List.setIfInBounds_toArray,List.set_cons_zero,List.set_cons_succ,i64_w,i32_w]
               rfl
              refine pure_ (i:=14) (N:=some 50) (v:=undef) (a':=?_) #[y_,y_,y_,y_,y_,y_,y_,y_,y_,y_,y_,y_,y_,y_,y_,n_,n_,n_,n_,n_,n_,n_,n_,n_,n_,n_,n_,n_,n_,n_,n_,n_,n_] rfl rfl (any_of HT_.out (by kernel_rfl)) (fun _ _ _ h=>h) (Or.inr ⟨by rfl,rfl⟩) ?_ ?_;rotate_left
              ·simp only [Act.put,List.setIfInBounds_toArray,List.set_cons_zero,List.set_cons_succ,i64_w,i32_w]
               rfl
              refine pure_ (i:=15) (N:=some 51) (v:=undef) (a':=?_) #[y_,y_,y_,y_,y_,y_,y_,y_,y_,y_,y_,y_,y_,y_,y_,y_,n_,n_,n_,n_,n_,n_,n_,n_,n_,n_,n_,n_,n_,n_,n_,n_,n_] rfl rfl (any_of HT_.out (by kernel_rfl)) (fun _ _ _ h=>h) (Or.inr ⟨by rfl,rfl⟩) ?_ ?_;rotate_left
              ·simp only [Act.put,List.setIfInBounds_toArray,List.set_cons_zero,List.set_cons_succ,i64_w,i32_w]
               rfl
              refine pure_ (i:=16) (N:=some 52) (v:=undef) (a':=?_) #[y_,y_,y_,y_,y_,y_,y_,y_,y_,y_,y_,y_,y_,y_,y_,y_,y_,n_,n_,n_,n_,n_,n_,n_,n_,n_,n_,n_,n_,n_,n_,n_,n_] rfl rfl (any_of HT_.out (by kernel_rfl)) (fun _ _ _ h=>h) (Or.inr ⟨by rfl,rfl⟩) ?_ ?_;rotate_left
              ·simp only [Act.put,List.setIfInBounds_toArray,List.set_cons_zero,List.set_cons_succ,i64_w,i32_w]
               rfl
              refine pure_ (i:=17) (N:=some 53) (v:=undef) (a':=?_) #[y_,y_,y_,y_,y_,y_,y_,y_,y_,y_,y_,y_,y_,y_,y_,y_,y_,y_,n_,n_,n_,n_,n_,n_,n_,n_,n_,n_,n_,n_,n_,n_,n_] rfl rfl (any_of HT_.out (by kernel_rfl)) (fun _ _ _ h=>h) (Or.inr ⟨by rfl,rfl⟩) ?_ ?_;rotate_left
              ·simp only [Act.put,List.setIfInBounds_toArray,List.set_cons_zero,List.set_cons_succ,i64_w,i32_w]
               rfl
              refine pure_ (i:=18) (N:=some 54) (v:=undef) (a':=?_) #[y_,y_,y_,y_,y_,y_,y_,y_,y_,y_,y_,y_,y_,y_,y_,y_,y_,y_,y_,n_,n_,n_,n_,n_,n_,n_,n_,n_,n_,n_,n_,n_,n_] rfl rfl (any_of HT_.out (by kernel_rfl)) (fun _ _ _ h=>h) (Or.inr ⟨by rfl,rfl⟩) ?_ ?_;rotate_left
              ·simp only [Act.put,List.setIfInBounds_toArray,List.set_cons_zero,List.set_cons_succ,i64_w,i32_w]
               rfl
              refine pure_ (i:=19) (N:=some 55) (v:=undef) (a':=?_) #[y_,y_,y_,y_,y_,y_,y_,y_,y_,y_,y_,y_,y_,y_,y_,y_,y_,y_,y_,y_,n_,n_,n_,n_,n_,n_,n_,n_,n_,n_,n_,n_,n_] rfl rfl (any_of HT_.out (by kernel_rfl)) (fun _ _ _ h=>h) (Or.inr ⟨by rfl,rfl⟩) ?_ ?_;rotate_left
              ·simp only [Act.put,List.setIfInBounds_toArray,List.set_cons_zero,List.set_cons_succ,i64_w,i32_w]
               rfl
              refine pure_ (i:=20) (N:=some 56) (v:=undef) (a':=?_) #[y_,y_,y_,y_,y_,y_,y_,y_,y_,y_,y_,y_,y_,y_,y_,y_,y_,y_,y_,y_,y_,n_,n_,n_,n_,n_,n_,n_,n_,n_,n_,n_,n_] rfl rfl (any_of HT_.out (by kernel_rfl)) (fun _ _ _ h=>h) (Or.inr ⟨by rfl,rfl⟩) ?_ ?_;rotate_left
              ·simp only [Act.put,List.setIfInBounds_toArray,List.set_cons_zero,List.set_cons_succ,i64_w,i32_w]
               rfl
              refine pure_ (i:=21) (N:=some 57) (v:=?_) (a':=?_) #[y_,y_,y_,y_,y_,y_,y_,y_,y_,y_,y_,y_,y_,y_,y_,y_,y_,y_,y_,y_,y_,y_,n_,n_,n_,n_,n_,n_,n_,n_,n_,n_,n_] rfl rfl (any_of HT_.out (by kernel_rfl)) (fun _ _ _ h=>h) (Or.inl ⟨by rfl,?_⟩) ?_ ?_;rotate_left
              ·intro w'
               go_simp;with_reducible rfl
              rotate_left
              ·simp only [Act.put,List.setIfInBounds_toArray,List.set_cons_zero,List.set_cons_succ,i64_w,i32_w]
               rfl
              refine pure_ (i:=22) (N:=some 58) (v:=?_) (a':=?_) #[y_,y_,y_,y_,y_,y_,y_,y_,y_,y_,y_,y_,y_,y_,y_,y_,y_,y_,y_,y_,y_,y_,y_,n_,n_,n_,n_,n_,n_,n_,n_,n_,n_] rfl rfl (any_of HT_.out (by kernel_rfl)) (fun _ _ _ h=>h) (Or.inl ⟨by rfl,?_⟩) ?_ ?_;rotate_left
              ·intro w'
               go_simp;with_reducible rfl
              rotate_left
              ·simp only [Act.put,List.setIfInBounds_toArray,List.set_cons_zero,List.set_cons_succ,i64_w,i32_w]
               rfl
              refine pure_ (i:=23) (N:=some 59) (v:=undef) (a':=?_) #[y_,y_,y_,y_,y_,y_,y_,y_,y_,y_,y_,y_,y_,y_,y_,y_,y_,y_,y_,y_,y_,y_,y_,y_,n_,n_,n_,n_,n_,n_,n_,n_,n_] rfl rfl (any_of HT_.out (by kernel_rfl)) (fun _ _ _ h=>h) (Or.inr ⟨by rfl,rfl⟩) ?_ ?_;rotate_left
              ·simp only [Act.put,List.setIfInBounds_toArray,List.set_cons_zero,List.set_cons_succ,i64_w,i32_w]
               rfl
              refine pure_ (i:=24) (N:=some 60) (v:=undef) (a':=?_) #[y_,y_,y_,y_,y_,y_,y_,y_,y_,y_,y_,y_,y_,y_,y_,y_,y_,y_,y_,y_,y_,y_,y_,y_,y_,n_,n_,n_,n_,n_,n_,n_,n_] rfl rfl (any_of HT_.out (by kernel_rfl)) (fun _ _ _ h=>h) (Or.inr ⟨by rfl,rfl⟩) ?_ ?_;rotate_left
              ·simp only [Act.put,List.setIfInBounds_toArray,List.set_cons_zero,List.set_cons_succ,i64_w,i32_w]
               rfl
              refine pure_ (i:=25) (N:=some 61) (v:=undef) (a':=?_) #[y_,y_,y_,y_,y_,y_,y_,y_,y_,y_,y_,y_,y_,y_,y_,y_,y_,y_,y_,y_,y_,y_,y_,y_,y_,y_,n_,n_,n_,n_,n_,n_,n_] rfl rfl (any_of HT_.out (by kernel_rfl)) (fun _ _ _ h=>h) (Or.inr ⟨by rfl,rfl⟩) ?_ ?_;rotate_left
              ·simp only [Act.put,List.setIfInBounds_toArray,List.set_cons_zero,List.set_cons_succ,i64_w,i32_w]
               rfl
              refine pure_ (i:=26) (N:=some 62) (v:=?_) (a':=?_) #[y_,y_,y_,y_,y_,y_,y_,y_,y_,y_,y_,y_,y_,y_,y_,y_,y_,y_,y_,y_,y_,y_,y_,y_,y_,y_,y_,n_,n_,n_,n_,n_,n_] rfl rfl (any_of HT_.out (by kernel_rfl)) (fun _ _ _ h=>h) (Or.inl ⟨by rfl,?_⟩) ?_ ?_;rotate_left
              ·intro w'
               go_simp;with_reducible rfl
              rotate_left
              ·simp only [Act.put,List.setIfInBounds_toArray,List.set_cons_zero,List.set_cons_succ,i64_w,i32_w]
               rfl
              refine pure_ (i:=27) (N:=some 63) (v:=?_) (a':=?_) #[y_,y_,y_,y_,y_,y_,y_,y_,y_,y_,y_,y_,y_,y_,y_,y_,y_,y_,y_,y_,y_,y_,y_,y_,y_,y_,y_,y_,n_,n_,n_,n_,n_] rfl rfl (any_of HT_.out (by kernel_rfl)) (fun _ _ _ h=>h) (Or.inl ⟨by rfl,?_⟩) ?_ ?_;rotate_left
              ·intro w'
               go_simp;with_reducible rfl
              rotate_left
              ·simp only [Act.put,List.setIfInBounds_toArray,List.set_cons_zero,List.set_cons_succ,i64_w,i32_w]
               rfl
              refine pure_ (i:=28) (N:=some 64) (v:=undef) (a':=?_) #[y_,y_,y_,y_,y_,y_,y_,y_,y_,y_,y_,y_,y_,y_,y_,y_,y_,y_,y_,y_,y_,y_,y_,y_,y_,y_,y_,y_,y_,n_,n_,n_,n_] rfl rfl (any_of HT_.out (by kernel_rfl)) (fun _ _ _ h=>h) (Or.inr ⟨by rfl,rfl⟩) ?_ ?_;rotate_left
              ·simp only [Act.put,List.setIfInBounds_toArray,List.set_cons_zero,List.set_cons_succ,i64_w,i32_w]
               rfl
              refine pure_ (i:=29) (N:=some 65) (v:=undef) (a':=?_) #[y_,y_,y_,y_,y_,y_,y_,y_,y_,y_,y_,y_,y_,y_,y_,y_,y_,y_,y_,y_,y_,y_,y_,y_,y_,y_,y_,y_,y_,y_,n_,n_,n_] rfl rfl (any_of HT_.out (by kernel_rfl)) (fun _ _ _ h=>h) (Or.inr ⟨by rfl,rfl⟩) ?_ ?_;rotate_left
              ·simp only [Act.put,List.setIfInBounds_toArray,List.set_cons_zero,List.set_cons_succ,i64_w,i32_w]
               rfl
              refine pure_ (i:=30) (N:=some 66) (v:=undef) (a':=?_) #[y_,y_,y_,y_,y_,y_,y_,y_,y_,y_,y_,y_,y_,y_,y_,y_,y_,y_,y_,y_,y_,y_,y_,y_,y_,y_,y_,y_,y_,y_,y_,n_,n_] rfl rfl (any_of HT_.out (by kernel_rfl)) (fun _ _ _ h=>h) (Or.inr ⟨by rfl,rfl⟩) ?_ ?_;rotate_left
              ·simp only [Act.put,List.setIfInBounds_toArray,List.set_cons_zero,List.set_cons_succ,i64_w,i32_w]
               rfl
              refine pure_ (i:=31) (N:=some 67) (v:=undef) (a':=?_) #[y_,y_,y_,y_,y_,y_,y_,y_,y_,y_,y_,y_,y_,y_,y_,y_,y_,y_,y_,y_,y_,y_,y_,y_,y_,y_,y_,y_,y_,y_,y_,y_,n_] rfl rfl (any_of HT_.out (by kernel_rfl)) (fun _ _ _ h=>h) (Or.inr ⟨by rfl,rfl⟩) ?_ ?_;rotate_left
              ·simp only [Act.put,List.setIfInBounds_toArray,List.set_cons_zero,List.set_cons_succ,i64_w,i32_w]
               rfl
              refine pure_ (i:=32) (N:=some 68) (v:=?_) (a':=?_) #[y_,y_,y_,y_,y_,y_,y_,y_,y_,y_,y_,y_,y_,y_,y_,y_,y_,y_,y_,y_,y_,y_,y_,y_,y_,y_,y_,y_,y_,y_,y_,y_,y_] rfl rfl (any_of HT_.out (by kernel_rfl)) (fun _ _ _ h=>h) (Or.inl ⟨by rfl,?_⟩) ?_ ?_;rotate_left
              ·intro w'
               go_simp;with_reducible rfl
              rotate_left
              ·simp only [Act.put,List.setIfInBounds_toArray,List.set_cons_zero,List.set_cons_succ,i64_w,i32_w]
               rfl
              refine done_ (done_of HT_.out (by kernel_rfl)) ?_
              try go_wp2
              go_ret;exact ⟨by first|rfl|(simp [errW_none,errW_some] <;> rfl)|(simp [*,errW_none,errW_some] <;> rfl),by repeat (first|(with_reducible first|exact HB.out|apply bal|apply pdN|apply bdr|refine bst ?_ GE112.out|refine bst ?_ GE119.out)|exact HB.out)⟩
             ·rw [if_neg c22] at H
              have c22b0:decide (x31_2 < ((rT y114 x31_2).f0))=false:=decide_eq_false c22;clear c22
              by_cases c28:0≤((rT y114 x31_2).f0)
              ·rw [if_pos c28] at H
               have c28b0:decide (0≤((rT y114 x31_2).f0))=true:=decide_eq_true c28;clear c28
               by_cases c29:((rT y114 x31_2).f0) < (l0_0.length:Int)
               ·rw [if_pos c29] at H
                have c29b0:decide (((rT y114 x31_2).f0) < (l0_0.length:Int))=true:=decide_eq_true c29;clear c29
                by_cases c30:((rT y114 x31_2).f2)=(wrap64 (((rT l0_0 ((rT y114 x31_2).f0)).f2)+1))
                ·rw [if_pos c30] at H
                 have c30b0:(((rT y114 x31_2).f2)==(wrap64 (((rT l0_0 ((rT y114 x31_2).f0)).f2)+1)))=true:=beq_iff_eq.mpr c30;have c30b1:(((rT y114 x31_2).f2) != (wrap64 (((rT l0_0 ((rT y114 x31_2).f0)).f2)+1)))=false:=bne_eq_false_iff_eq.mpr c30;clear c30
                 by_cases c31:((rT y114 x31_2).f2) > 12
                 ·rw [if_pos c31] at H
                  have c31b0:decide (12 < ((rT y114 x31_2).f2))=true:=decide_eq_true c31;clear c31
                  obtain rfl:=Option.some.inj H
                  have p118:0≤(x31_2:Int):=of_decide_eq_true (by first|(with_reducible assumption)|assumption)
                  have q118:x31_2 < (y114.length:Int):=of_decide_eq_true (by first|(with_reducible assumption)|assumption);obtain ⟨ad118,e118,hx118_0,hx118_1,hx118_2⟩:=at_T75 HR117.out x31_2 p118 q118;cases e118;replace hx118_0:=(HB.out.cell (World.block_lt_of_cell? w _ hx118_0)).trans hx118_0;replace hx118_1:=(HB.out.cell (World.block_lt_of_cell? w _ hx118_1)).trans hx118_1;replace hx118_2:=(HB.out.cell (World.block_lt_of_cell? w _ hx118_2)).trans hx118_2;replace p118:=eq_true p118;replace q118:=eq_true q118
                  try go_wp2_with (first|((with_reducible refine gtD (N:=5) rfl ?_);(try (refine gtG (by rfl) ?_;dsimp only));refine bxE ?hg (N:=5) ?hd (cs:=#[.int .i64 0,.string (⟨#[]⟩:ByteArray),.int .i64 0]) (t:=75) ?hr ?_;(case hd=>rfl);(case hg=>rfl);(case hr=>first|(go_simp;done)|(go_simp;rfl));intro gb119 hg w32 hbox hb;have n0_:=A0_.mk (bkB (g:=gb112) (o:=.cells #[.slice (some ad113) l0_0.length c0_0] 36 (0,0)) (by (with_reducible repeat first|apply bkN|apply bkD|apply bkA);exact BK112.out) hb);have n1_:=A0_.mk (bsp (by repeat (first|(with_reducible first|exact HB.out|apply bal|apply pdN|apply bdr|refine bst ?_ GE112.out)|exact HB.out)) hb);have n2_:=A0_.mk (hbox);have n3_:=A0_.mk ((by rw [hg];exact (bsz (by repeat (first|(with_reducible first|exact HB.out|apply bal|apply pdN|apply bdr|refine bst ?_ GE112.out)|exact HB.out))):w.heap.size≤gb119));have n4_:=A0_.mk ((by rw [hg];exact (bsz (by repeat (first|(with_reducible first|exact HB.out|apply bal|apply pdN|apply bdr|refine bst ?_ GE112.out)|exact HB.out))):w.heap.size≤gb119));have n5_:=A0_.mk ((by rw [hg];exact Nat.ne_of_lt (blk_lt (g:=gb112) (o:=.cells #[.slice (some ad113) l0_0.length c0_0] 36 (0,0)) (by (with_reducible repeat first|apply bkN|apply bkD|apply bkA);exact BK112.out)):gb112≠gb119));have n6_:=A0_.mk ((by rw [hg];exact Nat.ne_of_gt (blk_lt (g:=gb112) (o:=.cells #[.slice (some ad113) l0_0.length c0_0] 36 (0,0)) (by (with_reducible repeat first|apply bkN|apply bkD|apply bkA);exact BK112.out)):gb119≠gb112));clear BK112;clear HB;have BK112:=n0_;have HB:=n1_;have BK119:=n2_;have GW119:=n3_;have GE119:=n4_;have NB112_119:=n5_;have NB119_112:=n6_;clear n0_ n1_ n2_ n3_ n4_ n5_ n6_;clear hb hbox hg;have hnb33:=NB119_112.out;have hnc33:=NB112_119.out;have hcz34_0:w32.cell? ⟨gb119,0,none⟩=some (.int .i64 0):=(bkC BK119.out 0).trans rfl;have hcz34_1:w32.cell? ⟨gb119,1,none⟩=some (.string (⟨#[]⟩:ByteArray)):=(bkC BK119.out 1).trans rfl;have hcz34_2:w32.cell? ⟨gb119,2,none⟩=some (.int .i64 0):=(bkC BK119.out 2).trans rfl;have hfz34_0:=bkF BK119.out 0;have hfz34_1:=bkF BK119.out 1;have hfz34_2:=bkF BK119.out 2))
                  have n0_:A0_ ((((w32.setCell ⟨gb119,0,none⟩ (.int .i64 ((rT y114 x31_2).f0))).setCell ⟨gb119,1,none⟩ (.string ((rT y114 x31_2).f1))).setCell ⟨gb119,2,none⟩ (.int .i64 ((rT y114 x31_2).f2))).heap[gb112]? = some (.cells #[.slice (some ad113) l0_0.length c0_0] 36 (0,0))):=⟨by (with_reducible repeat first|apply bkN|apply bkD|apply bkA);refine bkf ?_ NB112_119.out _;(with_reducible repeat first|apply bkN|apply bkD|apply bkA);refine bkf ?_ NB112_119.out _;(with_reducible repeat first|apply bkN|apply bkD|apply bkA);refine bkf ?_ NB112_119.out _;(with_reducible repeat first|apply bkN|apply bkD|apply bkA);exact BK112.out⟩;have n1_:A0_ ((((w32.setCell ⟨gb119,0,none⟩ (.int .i64 ((rT y114 x31_2).f0))).setCell ⟨gb119,1,none⟩ (.string ((rT y114 x31_2).f1))).setCell ⟨gb119,2,none⟩ (.int .i64 ((rT y114 x31_2).f2))).heap[gb119]? = some (.cells #[.int .i64 ((rT y114 x31_2).f0),.string ((rT y114 x31_2).f1),.int .i64 ((rT y114 x31_2).f2)] 75 (0,0))):=⟨by (with_reducible repeat first|apply bkN|apply bkD|apply bkA);refine bkP (cs:=#[.int .i64 ((rT y114 x31_2).f0),.string ((rT y114 x31_2).f1),.int .i64 0]) ?_ 2 _ rfl;(with_reducible repeat first|apply bkN|apply bkD|apply bkA);refine bkP (cs:=#[.int .i64 ((rT y114 x31_2).f0),.string (⟨#[]⟩:ByteArray),.int .i64 0]) ?_ 1 _ rfl;(with_reducible repeat first|apply bkN|apply bkD|apply bkA);refine bkP (cs:=#[.int .i64 0,.string (⟨#[]⟩:ByteArray),.int .i64 0]) ?_ 0 _ rfl;(with_reducible repeat first|apply bkN|apply bkD|apply bkA);exact BK119.out⟩;have n2_:A0_ (Below w.heap.size w (((w32.setCell ⟨gb119,0,none⟩ (.int .i64 ((rT y114 x31_2).f0))).setCell ⟨gb119,1,none⟩ (.string ((rT y114 x31_2).f1))).setCell ⟨gb119,2,none⟩ (.int .i64 ((rT y114 x31_2).f2)))):=⟨by repeat (first|(with_reducible first|exact HB.out|apply bal|apply pdN|apply bdr|refine bst ?_ GE112.out|refine bst ?_ GE119.out)|exact HB.out)⟩;(try clear BK112);(try clear BK119);(try clear HB)
                  generalize (((w32.setCell ⟨gb119,0,none⟩ (.int .i64 ((rT y114 x31_2).f0))).setCell ⟨gb119,1,none⟩ (.string ((rT y114 x31_2).f1))).setCell ⟨gb119,2,none⟩ (.int .i64 ((rT y114 x31_2).f2)))=w35 at n0_ n1_ n2_ ⊢
                  have BK112:=n0_;have BK119:=n1_;have HB:=n2_;clear n0_ n1_ n2_;have n0_:=A0_.mk (bkD BK112.out);have n1_:=A0_.mk (bkD BK119.out);have n2_:=A0_.mk (bdr HB.out);clear BK112;clear BK119;clear HB;have BK112:=n0_;have BK119:=n1_;have HB:=n2_;clear n0_ n1_ n2_;have p120:0≤(((rT y114 x31_2).f0):Int):=of_decide_eq_true (by first|(with_reducible assumption)|assumption)
                  have q120:((rT y114 x31_2).f0) < (l0_0.length:Int):=of_decide_eq_true (by first|(with_reducible assumption)|assumption)
                  obtain ⟨ad120,e120,hx120_0,hx120_1,hx120_2⟩:=at_T75 HR0_0.out ((rT y114 x31_2).f0) p120 q120;have hw120_2:=hx120_2;have hw120_1:=hx120_1;have hw120_0:=hx120_0
                  obtain rfl:ad113=ad120:=(by injection e120)
                  replace hx120_0:=(HB.out.cell (World.block_lt_of_cell? w _ hx120_0)).trans hx120_0;replace hx120_1:=(HB.out.cell (World.block_lt_of_cell? w _ hx120_1)).trans hx120_1;replace hx120_2:=(HB.out.cell (World.block_lt_of_cell? w _ hx120_2)).trans hx120_2;replace p120:=eq_true p120;replace q120:=eq_true q120;refine start_ (n:=33) (S:=fun w'=>w'.cell? ⟨gb119,0,none⟩=some (.int .i64 ((rT y114 x31_2).f0))∧w'.cell? ⟨gb119,1,none⟩=some (.string ((rT y114 x31_2).f1))∧w'.cell? ⟨gb119,2,none⟩=some (.int .i64 ((rT y114 x31_2).f2))∧w'.cell? ⟨gb112,0,none⟩=some (.slice (some ad113) l0_0.length c0_0)∧w'.cell? (ad113.add ((((rT y114 x31_2).f0)).toNat * 3))=some (.int .i64 ((rT l0_0 ((rT y114 x31_2).f0)).f0))∧w'.cell? ⟨(ad113.add ((((rT y114 x31_2).f0)).toNat * 3)).block,(ad113.add ((((rT y114 x31_2).f0)).toNat * 3)).off+1,none⟩=some (.string ((rT l0_0 ((rT y114 x31_2).f0)).f1))∧w'.cell? ⟨(ad113.add ((((rT y114 x31_2).f0)).toNat * 3)).block,(ad113.add ((((rT y114 x31_2).f0)).toNat * 3)).off+2,none⟩=some (.int .i64 ((rT l0_0 ((rT y114 x31_2).f0)).f2))) (ds:=[]) #[n_,n_,n_,n_,n_,n_,n_,n_,n_,n_,n_,n_,n_,n_,n_,n_,n_,n_,n_,n_,n_,n_,n_,n_,n_,n_,n_,n_,n_,n_,n_,n_,n_] (by kernel_rfl) rfl rfl ⟨(bkC BK119.out 0).trans rfl,(bkC BK119.out 1).trans rfl,(bkC BK119.out 2).trans rfl,(bkC BK112.out 0).trans rfl,((HB.out.cell (World.block_lt_of_cell? w _ hw120_0)).trans hw120_0),((HB.out.cell (World.block_lt_of_cell? w _ hw120_1)).trans hw120_1),((HB.out.cell (World.block_lt_of_cell? w _ hw120_2)).trans hw120_2)⟩ (fun hHeld=>?_);refine with_tabW iFO.tab9 iFO.bits9 (fun HT_ HW_=>?_)
                  generalize w35.drew=w36 at BK112 BK119 HB hx120_0 hx120_1 hx120_2 hHeld ⊢
                  refine pure_ (i:=0) (N:=some 36) (v:=?_) (a':=?_) #[y_,n_,n_,n_,n_,n_,n_,n_,n_,n_,n_,n_,n_,n_,n_,n_,n_,n_,n_,n_,n_,n_,n_,n_,n_,n_,n_,n_,n_,n_,n_,n_,n_] rfl rfl (any_of HT_.out (by kernel_rfl)) (fun _ _ _ h=>h) (Or.inl ⟨by rfl,?_⟩) ?_ ?_;rotate_left
                  ·intro w'
                   go_simp;with_reducible rfl
                  rotate_left
                  ·simp only [Act.put,List.setIfInBounds_toArray,List.set_cons_zero,List.set_cons_succ,i64_w,i32_w]
                   rfl
                  refine take_ (i:=1) (N:=some 37) (v:=?_) (a':=?_) #[y_,y_,n_,n_,n_,n_,n_,n_,n_,n_,n_,n_,n_,n_,n_,n_,n_,n_,n_,n_,n_,n_,n_,n_,n_,n_,n_,n_,n_,n_,n_,n_,n_] rfl rfl (take_ofW HT_.out HW_.out (by kernel_rfl)) (fun _ _ _ h=>h) (Or.inl ⟨by rfl,?_⟩) hHeld ?_ ?_;rotate_left
                  ·rintro w' ⟨s0,s1,s2,s3,s4,s5,s6⟩
                   go_simp;with_reducible rfl
                  rotate_left
                  ·simp only [Act.put,List.setIfInBounds_toArray,List.set_cons_zero,List.set_cons_succ,i64_w,i32_w]
                   rfl
                  refine pure_ (i:=2) (N:=some 38) (v:=?_) (a':=?_) #[y_,y_,y_,n_,n_,n_,n_,n_,n_,n_,n_,n_,n_,n_,n_,n_,n_,n_,n_,n_,n_,n_,n_,n_,n_,n_,n_,n_,n_,n_,n_,n_,n_] rfl rfl (any_of HT_.out (by kernel_rfl)) (fun _ _ _ h=>h) (Or.inl ⟨by rfl,?_⟩) ?_ ?_;rotate_left
                  ·intro w'
                   go_simp;with_reducible rfl
                  rotate_left
                  ·simp only [Act.put,List.setIfInBounds_toArray,List.set_cons_zero,List.set_cons_succ,i64_w,i32_w]
                   rfl
                  refine pure_ (i:=3) (N:=some 39) (v:=?_) (a':=?_) #[y_,y_,y_,y_,n_,n_,n_,n_,n_,n_,n_,n_,n_,n_,n_,n_,n_,n_,n_,n_,n_,n_,n_,n_,n_,n_,n_,n_,n_,n_,n_,n_,n_] rfl rfl (any_of HT_.out (by kernel_rfl)) (fun _ _ _ h=>h) (Or.inl ⟨by rfl,?_⟩) ?_ ?_;rotate_left
                  ·intro w'
                   go_simp;with_reducible rfl
                  rotate_left
                  ·simp only [Act.put,List.setIfInBounds_toArray,List.set_cons_zero,List.set_cons_succ,i64_w,i32_w]
                   rfl
                  refine pure_ (i:=4) (N:=some 40) (v:=?_) (a':=?_) #[y_,y_,y_,y_,y_,n_,n_,n_,n_,n_,n_,n_,n_,n_,n_,n_,n_,n_,n_,n_,n_,n_,n_,n_,n_,n_,n_,n_,n_,n_,n_,n_,n_] rfl rfl (any_of HT_.out (by kernel_rfl)) (fun _ _ _ h=>h) (Or.inl ⟨by rfl,?_⟩) ?_ ?_;rotate_left
                  ·intro w'
                   go_simp;with_reducible rfl
                  rotate_left
                  ·simp only [Act.put,List.setIfInBounds_toArray,List.set_cons_zero,List.set_cons_succ,i64_w,i32_w]
                   rfl
                  refine pure_ (i:=6) (N:=some 42) (v:=?_) (a':=?_) #[y_,y_,y_,y_,y_,n_,y_,n_,n_,n_,n_,n_,n_,n_,n_,n_,n_,n_,n_,n_,n_,n_,n_,n_,n_,n_,n_,n_,n_,n_,n_,n_,n_] rfl rfl (any_of HT_.out (by kernel_rfl)) (fun _ _ _ h=>h) (Or.inl ⟨by rfl,?_⟩) ?_ ?_;rotate_left
                  ·intro w'
                   go_simp;with_reducible rfl
                  rotate_left
                  ·simp only [Act.put,List.setIfInBounds_toArray,List.set_cons_zero,List.set_cons_succ,i64_w,i32_w]
                   rfl
                  refine take_ (i:=5) (N:=some 41) (v:=?_) (a':=?_) #[y_,y_,y_,y_,y_,y_,y_,n_,n_,n_,n_,n_,n_,n_,n_,n_,n_,n_,n_,n_,n_,n_,n_,n_,n_,n_,n_,n_,n_,n_,n_,n_,n_] rfl rfl (take_ofW HT_.out HW_.out (by kernel_rfl)) (fun _ _ _ h=>h) (Or.inl ⟨by rfl,?_⟩) hHeld ?_ ?_;rotate_left
                  ·rintro w' ⟨s0,s1,s2,s3,s4,s5,s6⟩
                   go_simp;with_reducible rfl
                  rotate_left
                  ·simp only [Act.put,List.setIfInBounds_toArray,List.set_cons_zero,List.set_cons_succ,i64_w,i32_w]
                   rfl
                  refine pure_ (i:=7) (N:=some 43) (v:=?_) (a':=?_) #[y_,y_,y_,y_,y_,y_,y_,y_,n_,n_,n_,n_,n_,n_,n_,n_,n_,n_,n_,n_,n_,n_,n_,n_,n_,n_,n_,n_,n_,n_,n_,n_,n_] rfl rfl (any_of HT_.out (by kernel_rfl)) (fun _ _ _ h=>h) (Or.inl ⟨by rfl,?_⟩) ?_ ?_;rotate_left
                  ·intro w'
                   go_simp;with_reducible rfl
                  rotate_left
                  ·simp only [Act.put,List.setIfInBounds_toArray,List.set_cons_zero,List.set_cons_succ,i64_w,i32_w]
                   rfl
                  refine pure_ (i:=8) (N:=some 44) (v:=?_) (a':=?_) #[y_,y_,y_,y_,y_,y_,y_,y_,y_,n_,n_,n_,n_,n_,n_,n_,n_,n_,n_,n_,n_,n_,n_,n_,n_,n_,n_,n_,n_,n_,n_,n_,n_] rfl rfl (any_of HT_.out (by kernel_rfl)) (fun _ _ _ h=>h) (Or.inl ⟨by rfl,?_⟩) ?_ ?_;rotate_left
                  ·intro w'
                   go_simp;with_reducible rfl
                  rotate_left
                  ·simp only [Act.put,List.setIfInBounds_toArray,List.set_cons_zero,List.set_cons_succ,i64_w,i32_w]
                   rfl
                  refine pure_ (i:=9) (N:=some 45) (v:=?_) (a':=?_) #[y_,y_,y_,y_,y_,y_,y_,y_,y_,y_,n_,n_,n_,n_,n_,n_,n_,n_,n_,n_,n_,n_,n_,n_,n_,n_,n_,n_,n_,n_,n_,n_,n_] rfl rfl (any_of HT_.out (by kernel_rfl)) (fun _ _ _ h=>h) (Or.inl ⟨by rfl,?_⟩) ?_ ?_;rotate_left
                  ·intro w'
                   go_simp;with_reducible rfl
                  rotate_left
                  ·simp only [Act.put,List.setIfInBounds_toArray,List.set_cons_zero,List.set_cons_succ,i64_w,i32_w]
                   rfl
                  refine pure_ (i:=10) (N:=some 46) (v:=?_) (a':=?_) #[y_,y_,y_,y_,y_,y_,y_,y_,y_,y_,y_,n_,n_,n_,n_,n_,n_,n_,n_,n_,n_,n_,n_,n_,n_,n_,n_,n_,n_,n_,n_,n_,n_] rfl rfl (any_of HT_.out (by kernel_rfl)) (fun _ _ _ h=>h) (Or.inl ⟨by rfl,?_⟩) ?_ ?_;rotate_left
                  ·intro w'
                   go_simp;with_reducible rfl
                  rotate_left
                  ·simp only [Act.put,List.setIfInBounds_toArray,List.set_cons_zero,List.set_cons_succ,i64_w,i32_w]
                   rfl
                  refine pure_ (i:=12) (N:=some 48) (v:=?_) (a':=?_) #[y_,y_,y_,y_,y_,y_,y_,y_,y_,y_,y_,n_,y_,n_,n_,n_,n_,n_,n_,n_,n_,n_,n_,n_,n_,n_,n_,n_,n_,n_,n_,n_,n_] rfl rfl (any_of HT_.out (by kernel_rfl)) (fun _ _ _ h=>h) (Or.inl ⟨by rfl,?_⟩) ?_ ?_;rotate_left
                  ·intro w'
                   go_simp;with_reducible rfl
                  rotate_left
                  ·simp only [Act.put,List.setIfInBounds_toArray,List.set_cons_zero,List.set_cons_succ,i64_w,i32_w]
                   rfl
                  refine pure_ (i:=14) (N:=some 50) (v:=?_) (a':=?_) #[y_,y_,y_,y_,y_,y_,y_,y_,y_,y_,y_,n_,y_,n_,y_,n_,n_,n_,n_,n_,n_,n_,n_,n_,n_,n_,n_,n_,n_,n_,n_,n_,n_] rfl rfl (any_of HT_.out (by kernel_rfl)) (fun _ _ _ h=>h) (Or.inl ⟨by rfl,?_⟩) ?_ ?_;rotate_left
                  ·intro w'
                   go_simp;with_reducible rfl
                  rotate_left
                  ·simp only [Act.put,List.setIfInBounds_toArray,List.set_cons_zero,List.set_cons_succ,i64_w,i32_w]
                   rfl
                  refine take_ (i:=11) (N:=some 47) (v:=?_) (a':=?_) #[y_,y_,y_,y_,y_,y_,y_,y_,y_,y_,y_,y_,y_,n_,y_,n_,n_,n_,n_,n_,n_,n_,n_,n_,n_,n_,n_,n_,n_,n_,n_,n_,n_] rfl rfl (take_ofW HT_.out HW_.out (by kernel_rfl)) (fun _ _ _ h=>h) (Or.inl ⟨by rfl,?_⟩) hHeld ?_ ?_;rotate_left
                  ·rintro w' ⟨s0,s1,s2,s3,s4,s5,s6⟩
                   go_simp;with_reducible rfl
                  rotate_left
                  ·simp only [Act.put,List.setIfInBounds_toArray,List.set_cons_zero,List.set_cons_succ,i64_w,i32_w]
                   rfl
                  refine take_ (i:=13) (N:=some 49) (v:=?_) (a':=?_) #[y_,y_,y_,y_,y_,y_,y_,y_,y_,y_,y_,y_,y_,y_,y_,n_,n_,n_,n_,n_,n_,n_,n_,n_,n_,n_,n_,n_,n_,n_,n_,n_,n_] rfl rfl (take_ofW HT_.out HW_.out (by kernel_rfl)) (fun _ _ _ h=>h) (Or.inl ⟨by rfl,?_⟩) hHeld ?_ ?_;rotate_left
                  ·rintro w' ⟨s0,s1,s2,s3,s4,s5,s6⟩
                   go_simp;with_reducible rfl
                  rotate_left
                  ·simp only [Act.put,List.setIfInBounds_toArray,List.set_cons_zero,List.set_cons_succ,i64_w,i32_w]
                   rfl
                  refine take_ (i:=15) (N:=some 51) (v:=?_) (a':=?_) #[y_,y_,y_,y_,y_,y_,y_,y_,y_,y_,y_,y_,y_,y_,y_,y_,n_,n_,n_,n_,n_,n_,n_,n_,n_,n_,n_,n_,n_,n_,n_,n_,n_] rfl rfl (take_ofW HT_.out HW_.out (by kernel_rfl)) (fun _ _ _ h=>h) (Or.inl ⟨by rfl,?_⟩) hHeld ?_ ?_;rotate_left
                  ·rintro w' ⟨s0,s1,s2,s3,s4,s5,s6⟩
                   go_simp;with_reducible rfl
                  rotate_left
                  ·simp only [Act.put,List.setIfInBounds_toArray,List.set_cons_zero,List.set_cons_succ,i64_w,i32_w]
                   rfl
                  refine pure_ (i:=16) (N:=some 52) (v:=?_) (a':=?_) #[y_,y_,y_,y_,y_,y_,y_,y_,y_,y_,y_,y_,y_,y_,y_,y_,y_,n_,n_,n_,n_,n_,n_,n_,n_,n_,n_,n_,n_,n_,n_,n_,n_] rfl rfl (any_of HT_.out (by kernel_rfl)) (fun _ _ _ h=>h) (Or.inl ⟨by rfl,?_⟩) ?_ ?_;rotate_left
                  ·intro w'
                   go_simp;with_reducible rfl
                  rotate_left
                  ·simp only [Act.put,List.setIfInBounds_toArray,List.set_cons_zero,List.set_cons_succ,i64_w,i32_w]
                   rfl
                  refine pure_ (i:=17) (N:=some 53) (v:=?_) (a':=?_) #[y_,y_,y_,y_,y_,y_,y_,y_,y_,y_,y_,y_,y_,y_,y_,y_,y_,y_,n_,n_,n_,n_,n_,n_,n_,n_,n_,n_,n_,n_,n_,n_,n_] rfl rfl (any_of HT_.out (by kernel_rfl)) (fun _ _ _ h=>h) (Or.inl ⟨by rfl,?_⟩) ?_ ?_;rotate_left
                  ·intro w'
                   go_simp;with_reducible rfl
                  rotate_left
                  ·simp only [Act.put,List.setIfInBounds_toArray,List.set_cons_zero,List.set_cons_succ,i64_w,i32_w]
                   rfl
                  refine take_ (i:=18) (N:=some 54) (v:=?_) (a':=?_) #[y_,y_,y_,y_,y_,y_,y_,y_,y_,y_,y_,y_,y_,y_,y_,y_,y_,y_,y_,n_,n_,n_,n_,n_,n_,n_,n_,n_,n_,n_,n_,n_,n_] rfl rfl (take_ofW HT_.out HW_.out (by kernel_rfl)) (fun _ _ _ h=>h) (Or.inl ⟨by rfl,?_⟩) hHeld ?_ ?_;rotate_left
                  ·rintro w' ⟨s0,s1,s2,s3,s4,s5,s6⟩
                   go_simp;with_reducible rfl
                  rotate_left
                  ·simp only [Act.put,List.setIfInBounds_toArray,List.set_cons_zero,List.set_cons_succ,i64_w,i32_w]
                   rfl
                  refine pure_ (i:=19) (N:=some 55) (v:=?_) (a':=?_) #[y_,y_,y_,y_,y_,y_,y_,y_,y_,y_,y_,y_,y_,y_,y_,y_,y_,y_,y_,y_,n_,n_,n_,n_,n_,n_,n_,n_,n_,n_,n_,n_,n_] rfl rfl (any_of HT_.out (by kernel_rfl)) (fun _ _ _ h=>h) (Or.inl ⟨by rfl,?_⟩) ?_ ?_;rotate_left
                  ·intro w'
                   go_simp;with_reducible rfl
                  rotate_left
                  ·simp only [Act.put,List.setIfInBounds_toArray,List.set_cons_zero,List.set_cons_succ,i64_w,i32_w]
                   rfl
                  refine pure_ (i:=20) (N:=some 56) (v:=?_) (a':=?_) #[y_,y_,y_,y_,y_,y_,y_,y_,y_,y_,y_,y_,y_,y_,y_,y_,y_,y_,y_,y_,y_,n_,n_,n_,n_,n_,n_,n_,n_,n_,n_,n_,n_] rfl rfl (any_of HT_.out (by kernel_rfl)) (fun _ _ _ h=>h) (Or.inl ⟨by rfl,?_⟩) ?_ ?_;rotate_left
                  ·intro w'
                   go_simp;with_reducible rfl
                  rotate_left
                  ·simp only [Act.put,List.setIfInBounds_toArray,List.set_cons_zero,List.set_cons_succ,i64_w,i32_w]
                   rfl
                  refine pure_ (i:=21) (N:=some 57) (v:=?_) (a':=?_) #[y_,y_,y_,y_,y_,y_,y_,y_,y_,y_,y_,y_,y_,y_,y_,y_,y_,y_,y_,y_,y_,y_,n_,n_,n_,n_,n_,n_,n_,n_,n_,n_,n_] rfl rfl (any_of HT_.out (by kernel_rfl)) (fun _ _ _ h=>h) (Or.inl ⟨by rfl,?_⟩) ?_ ?_;rotate_left
                  ·intro w'
                   go_simp;with_reducible rfl
                  rotate_left
                  ·simp only [Act.put,List.setIfInBounds_toArray,List.set_cons_zero,List.set_cons_succ,i64_w,i32_w]
                   rfl
                  refine pure_ (i:=22) (N:=some 58) (v:=?_) (a':=?_) #[y_,y_,y_,y_,y_,y_,y_,y_,y_,y_,y_,y_,y_,y_,y_,y_,y_,y_,y_,y_,y_,y_,y_,n_,n_,n_,n_,n_,n_,n_,n_,n_,n_] rfl rfl (any_of HT_.out (by kernel_rfl)) (fun _ _ _ h=>h) (Or.inl ⟨by rfl,?_⟩) ?_ ?_;rotate_left
                  ·intro w'
                   go_simp;with_reducible rfl
                  rotate_left
                  ·simp only [Act.put,List.setIfInBounds_toArray,List.set_cons_zero,List.set_cons_succ,i64_w,i32_w]
                   rfl
                  refine pure_ (i:=23) (N:=some 59) (v:=?_) (a':=?_) #[y_,y_,y_,y_,y_,y_,y_,y_,y_,y_,y_,y_,y_,y_,y_,y_,y_,y_,y_,y_,y_,y_,y_,y_,n_,n_,n_,n_,n_,n_,n_,n_,n_] rfl rfl (any_of HT_.out (by kernel_rfl)) (fun _ _ _ h=>h) (Or.inl ⟨by rfl,?_⟩) ?_ ?_;rotate_left
                  ·intro w'
                   go_simp;with_reducible rfl
                  rotate_left
                  ·simp only [Act.put,List.setIfInBounds_toArray,List.set_cons_zero,List.set_cons_succ,i64_w,i32_w]
                   rfl
                  refine take_ (i:=24) (N:=some 60) (v:=?_) (a':=?_) #[y_,y_,y_,y_,y_,y_,y_,y_,y_,y_,y_,y_,y_,y_,y_,y_,y_,y_,y_,y_,y_,y_,y_,y_,y_,n_,n_,n_,n_,n_,n_,n_,n_] rfl rfl (take_ofW HT_.out HW_.out (by kernel_rfl)) (fun _ _ _ h=>h) (Or.inl ⟨by rfl,?_⟩) hHeld ?_ ?_;rotate_left
                  ·rintro w' ⟨s0,s1,s2,s3,s4,s5,s6⟩
                   go_simp;with_reducible rfl
                  rotate_left
                  ·simp only [Act.put,List.setIfInBounds_toArray,List.set_cons_zero,List.set_cons_succ,i64_w,i32_w]
                   rfl
                  refine pure_ (i:=25) (N:=some 61) (v:=?_) (a':=?_) #[y_,y_,y_,y_,y_,y_,y_,y_,y_,y_,y_,y_,y_,y_,y_,y_,y_,y_,y_,y_,y_,y_,y_,y_,y_,y_,n_,n_,n_,n_,n_,n_,n_] rfl rfl (any_of HT_.out (by kernel_rfl)) (fun _ _ _ h=>h) (Or.inl ⟨by rfl,?_⟩) ?_ ?_;rotate_left
                  ·intro w'
                   go_simp;with_reducible rfl
                  rotate_left
                  ·simp only [Act.put,List.setIfInBounds_toArray,List.set_cons_zero,List.set_cons_succ,i64_w,i32_w]
                   rfl
                  refine pure_ (i:=26) (N:=some 62) (v:=?_) (a':=?_) #[y_,y_,y_,y_,y_,y_,y_,y_,y_,y_,y_,y_,y_,y_,y_,y_,y_,y_,y_,y_,y_,y_,y_,y_,y_,y_,y_,n_,n_,n_,n_,n_,n_] rfl rfl (any_of HT_.out (by kernel_rfl)) (fun _ _ _ h=>h) (Or.inl ⟨by rfl,?_⟩) ?_ ?_;rotate_left
                  ·intro w'
                   go_simp;with_reducible rfl
                  rotate_left
                  ·simp only [Act.put,List.setIfInBounds_toArray,List.set_cons_zero,List.set_cons_succ,i64_w,i32_w]
                   rfl
                  refine pure_ (i:=27) (N:=some 63) (v:=?_) (a':=?_) #[y_,y_,y_,y_,y_,y_,y_,y_,y_,y_,y_,y_,y_,y_,y_,y_,y_,y_,y_,y_,y_,y_,y_,y_,y_,y_,y_,y_,n_,n_,n_,n_,n_] rfl rfl (any_of HT_.out (by kernel_rfl)) (fun _ _ _ h=>h) (Or.inl ⟨by rfl,?_⟩) ?_ ?_;rotate_left
                  ·intro w'
                   go_simp;with_reducible rfl
                  rotate_left
                  ·simp only [Act.put,List.setIfInBounds_toArray,List.set_cons_zero,List.set_cons_succ,i64_w,i32_w]
                   rfl
                  refine pure_ (i:=28) (N:=some 64) (v:=undef) (a':=?_) #[y_,y_,y_,y_,y_,y_,y_,y_,y_,y_,y_,y_,y_,y_,y_,y_,y_,y_,y_,y_,y_,y_,y_,y_,y_,y_,y_,y_,y_,n_,n_,n_,n_] rfl rfl (any_of HT_.out (by kernel_rfl)) (fun _ _ _ h=>h) (Or.inr ⟨by rfl,rfl⟩) ?_ ?_;rotate_left
                  ·simp only [Act.put,List.setIfInBounds_toArray,List.set_cons_zero,List.set_cons_succ,i64_w,i32_w]
                   rfl
                  refine pure_ (i:=29) (N:=some 65) (v:=undef) (a':=?_) #[y_,y_,y_,y_,y_,y_,y_,y_,y_,y_,y_,y_,y_,y_,y_,y_,y_,y_,y_,y_,y_,y_,y_,y_,y_,y_,y_,y_,y_,y_,n_,n_,n_] rfl rfl (any_of HT_.out (by kernel_rfl)) (fun _ _ _ h=>h) (Or.inr ⟨by rfl,rfl⟩) ?_ ?_;rotate_left
                  ·simp only [Act.put,List.setIfInBounds_toArray,List.set_cons_zero,List.set_cons_succ,i64_w,i32_w]
                   rfl
                  refine pure_ (i:=30) (N:=some 66) (v:=undef) (a':=?_) #[y_,y_,y_,y_,y_,y_,y_,y_,y_,y_,y_,y_,y_,y_,y_,y_,y_,y_,y_,y_,y_,y_,y_,y_,y_,y_,y_,y_,y_,y_,y_,n_,n_] rfl rfl (any_of HT_.out (by kernel_rfl)) (fun _ _ _ h=>h) (Or.inr ⟨by rfl,rfl⟩) ?_ ?_;rotate_left
                  ·simp only [Act.put,List.setIfInBounds_toArray,List.set_cons_zero,List.set_cons_succ,i64_w,i32_w]
                   rfl
                  refine pure_ (i:=31) (N:=some 67) (v:=undef) (a':=?_) #[y_,y_,y_,y_,y_,y_,y_,y_,y_,y_,y_,y_,y_,y_,y_,y_,y_,y_,y_,y_,y_,y_,y_,y_,y_,y_,y_,y_,y_,y_,y_,y_,n_] rfl rfl (any_of HT_.out (by kernel_rfl)) (fun _ _ _ h=>h) (Or.inr ⟨by rfl,rfl⟩) ?_ ?_;rotate_left
                  ·simp only [Act.put,List.setIfInBounds_toArray,List.set_cons_zero,List.set_cons_succ,i64_w,i32_w]
                   rfl
                  refine pure_ (i:=32) (N:=some 68) (v:=?_) (a':=?_) #[y_,y_,y_,y_,y_,y_,y_,y_,y_,y_,y_,y_,y_,y_,y_,y_,y_,y_,y_,y_,y_,y_,y_,y_,y_,y_,y_,y_,y_,y_,y_,y_,y_] rfl rfl (any_of HT_.out (by kernel_rfl)) (fun _ _ _ h=>h) (Or.inl ⟨by rfl,?_⟩) ?_ ?_;rotate_left
                  ·intro w'
                   go_simp;with_reducible rfl
                  rotate_left
                  ·simp only [Act.put,List.setIfInBounds_toArray,List.set_cons_zero,List.set_cons_succ,i64_w,i32_w]
                   rfl
                  refine done_ (done_of HT_.out (by kernel_rfl)) ?_
                  try go_wp2
                  go_ret;exact ⟨by first|rfl|(simp [errW_none,errW_some] <;> rfl)|(simp [*,errW_none,errW_some] <;> rfl),by repeat (first|(with_reducible first|exact HB.out|apply bal|apply pdN|apply bdr|refine bst ?_ GE112.out|refine bst ?_ GE119.out)|exact HB.out)⟩
                 ·rw [if_neg c31] at H
                  have c31b0:decide (12 < ((rT y114 x31_2).f2))=false:=decide_eq_false c31;clear c31
                  by_cases c37:(((rT y114 x31_2).f1).size:Int) > 4000
                  ·rw [if_pos c37] at H
                   have c37b0:decide (4000 < (((rT y114 x31_2).f1).size:Int))=true:=decide_eq_true c37;have c37b1:decide (4000 < ((rT y114 x31_2).f1).size)=true:=decide_eq_true (by omega);clear c37
                   obtain rfl:=Option.some.inj H
                   have p118:0≤(x31_2:Int):=of_decide_eq_true (by first|(with_reducible assumption)|assumption)
                   have q118:x31_2 < (y114.length:Int):=of_decide_eq_true (by first|(with_reducible assumption)|assumption);obtain ⟨ad118,e118,hx118_0,hx118_1,hx118_2⟩:=at_T75 HR117.out x31_2 p118 q118;cases e118;replace hx118_0:=(HB.out.cell (World.block_lt_of_cell? w _ hx118_0)).trans hx118_0;replace hx118_1:=(HB.out.cell (World.block_lt_of_cell? w _ hx118_1)).trans hx118_1;replace hx118_2:=(HB.out.cell (World.block_lt_of_cell? w _ hx118_2)).trans hx118_2;replace p118:=eq_true p118;replace q118:=eq_true q118
                   try go_wp2_with (first|((with_reducible refine gtD (N:=5) rfl ?_);(try (refine gtG (by rfl) ?_;dsimp only));refine bxE ?hg (N:=5) ?hd (cs:=#[.int .i64 0,.string (⟨#[]⟩:ByteArray),.int .i64 0]) (t:=75) ?hr ?_;(case hd=>rfl);(case hg=>rfl);(case hr=>first|(go_simp;done)|(go_simp;rfl));intro gb119 hg w38 hbox hb;have n0_:=A0_.mk (bkB (g:=gb112) (o:=.cells #[.slice (some ad113) l0_0.length c0_0] 36 (0,0)) (by (with_reducible repeat first|apply bkN|apply bkD|apply bkA);exact BK112.out) hb);have n1_:=A0_.mk (bsp (by repeat (first|(with_reducible first|exact HB.out|apply bal|apply pdN|apply bdr|refine bst ?_ GE112.out)|exact HB.out)) hb);have n2_:=A0_.mk (hbox);have n3_:=A0_.mk ((by rw [hg];exact (bsz (by repeat (first|(with_reducible first|exact HB.out|apply bal|apply pdN|apply bdr|refine bst ?_ GE112.out)|exact HB.out))):w.heap.size≤gb119));have n4_:=A0_.mk ((by rw [hg];exact (bsz (by repeat (first|(with_reducible first|exact HB.out|apply bal|apply pdN|apply bdr|refine bst ?_ GE112.out)|exact HB.out))):w.heap.size≤gb119));have n5_:=A0_.mk ((by rw [hg];exact Nat.ne_of_lt (blk_lt (g:=gb112) (o:=.cells #[.slice (some ad113) l0_0.length c0_0] 36 (0,0)) (by (with_reducible repeat first|apply bkN|apply bkD|apply bkA);exact BK112.out)):gb112≠gb119));have n6_:=A0_.mk ((by rw [hg];exact Nat.ne_of_gt (blk_lt (g:=gb112) (o:=.cells #[.slice (some ad113) l0_0.length c0_0] 36 (0,0)) (by (with_reducible repeat first|apply bkN|apply bkD|apply bkA);exact BK112.out)):gb119≠gb112));clear BK112;clear HB;have BK112:=n0_;have HB:=n1_;have BK119:=n2_;have GW119:=n3_;have GE119:=n4_;have NB112_119:=n5_;have NB119_112:=n6_;clear n0_ n1_ n2_ n3_ n4_ n5_ n6_;clear hb hbox hg;have hnb39:=NB119_112.out;have hnc39:=NB112_119.out;have hcz40_0:w38.cell? ⟨gb119,0,none⟩=some (.int .i64 0):=(bkC BK119.out 0).trans rfl;have hcz40_1:w38.cell? ⟨gb119,1,none⟩=some (.string (⟨#[]⟩:ByteArray)):=(bkC BK119.out 1).trans rfl;have hcz40_2:w38.cell? ⟨gb119,2,none⟩=some (.int .i64 0):=(bkC BK119.out 2).trans rfl;have hfz40_0:=bkF BK119.out 0;have hfz40_1:=bkF BK119.out 1;have hfz40_2:=bkF BK119.out 2))
                   have n0_:A0_ ((((w38.setCell ⟨gb119,0,none⟩ (.int .i64 ((rT y114 x31_2).f0))).setCell ⟨gb119,1,none⟩ (.string ((rT y114 x31_2).f1))).setCell ⟨gb119,2,none⟩ (.int .i64 ((rT y114 x31_2).f2))).heap[gb112]? = some (.cells #[.slice (some ad113) l0_0.length c0_0] 36 (0,0))):=⟨by (with_reducible repeat first|apply bkN|apply bkD|apply bkA);refine bkf ?_ NB112_119.out _;(with_reducible repeat first|apply bkN|apply bkD|apply bkA);refine bkf ?_ NB112_119.out _;(with_reducible repeat first|apply bkN|apply bkD|apply bkA);refine bkf ?_ NB112_119.out _;(with_reducible repeat first|apply bkN|apply bkD|apply bkA);exact BK112.out⟩;have n1_:A0_ ((((w38.setCell ⟨gb119,0,none⟩ (.int .i64 ((rT y114 x31_2).f0))).setCell ⟨gb119,1,none⟩ (.string ((rT y114 x31_2).f1))).setCell ⟨gb119,2,none⟩ (.int .i64 ((rT y114 x31_2).f2))).heap[gb119]? = some (.cells #[.int .i64 ((rT y114 x31_2).f0),.string ((rT y114 x31_2).f1),.int .i64 ((rT y114 x31_2).f2)] 75 (0,0))):=⟨by (with_reducible repeat first|apply bkN|apply bkD|apply bkA);refine bkP (cs:=#[.int .i64 ((rT y114 x31_2).f0),.string ((rT y114 x31_2).f1),.int .i64 0]) ?_ 2 _ rfl;(with_reducible repeat first|apply bkN|apply bkD|apply bkA);refine bkP (cs:=#[.int .i64 ((rT y114 x31_2).f0),.string (⟨#[]⟩:ByteArray),.int .i64 0]) ?_ 1 _ rfl;(with_reducible repeat first|apply bkN|apply bkD|apply bkA);refine bkP (cs:=#[.int .i64 0,.string (⟨#[]⟩:ByteArray),.int .i64 0]) ?_ 0 _ rfl;(with_reducible repeat first|apply bkN|apply bkD|apply bkA);exact BK119.out⟩;have n2_:A0_ (Below w.heap.size w (((w38.setCell ⟨gb119,0,none⟩ (.int .i64 ((rT y114 x31_2).f0))).setCell ⟨gb119,1,none⟩ (.string ((rT y114 x31_2).f1))).setCell ⟨gb119,2,none⟩ (.int .i64 ((rT y114 x31_2).f2)))):=⟨by repeat (first|(with_reducible first|exact HB.out|apply bal|apply pdN|apply bdr|refine bst ?_ GE112.out|refine bst ?_ GE119.out)|exact HB.out)⟩;(try clear BK112);(try clear BK119);(try clear HB)
                   generalize (((w38.setCell ⟨gb119,0,none⟩ (.int .i64 ((rT y114 x31_2).f0))).setCell ⟨gb119,1,none⟩ (.string ((rT y114 x31_2).f1))).setCell ⟨gb119,2,none⟩ (.int .i64 ((rT y114 x31_2).f2)))=w41 at n0_ n1_ n2_ ⊢
                   have BK112:=n0_;have BK119:=n1_;have HB:=n2_;clear n0_ n1_ n2_;have n0_:=A0_.mk (bkD BK112.out);have n1_:=A0_.mk (bkD BK119.out);have n2_:=A0_.mk (bdr HB.out);clear BK112;clear BK119;clear HB;have BK112:=n0_;have BK119:=n1_;have HB:=n2_;clear n0_ n1_ n2_;have p120:0≤(((rT y114 x31_2).f0):Int):=of_decide_eq_true (by first|(with_reducible assumption)|assumption)
                   have q120:((rT y114 x31_2).f0) < (l0_0.length:Int):=of_decide_eq_true (by first|(with_reducible assumption)|assumption)
                   obtain ⟨ad120,e120,hx120_0,hx120_1,hx120_2⟩:=at_T75 HR0_0.out ((rT y114 x31_2).f0) p120 q120;have hw120_2:=hx120_2;have hw120_1:=hx120_1;have hw120_0:=hx120_0
                   obtain rfl:ad113=ad120:=(by injection e120)
                   replace hx120_0:=(HB.out.cell (World.block_lt_of_cell? w _ hx120_0)).trans hx120_0;replace hx120_1:=(HB.out.cell (World.block_lt_of_cell? w _ hx120_1)).trans hx120_1;replace hx120_2:=(HB.out.cell (World.block_lt_of_cell? w _ hx120_2)).trans hx120_2;replace p120:=eq_true p120;replace q120:=eq_true q120;refine start_ (n:=33) (S:=fun w'=>w'.cell? ⟨gb119,0,none⟩=some (.int .i64 ((rT y114 x31_2).f0))∧w'.cell? ⟨gb119,1,none⟩=some (.string ((rT y114 x31_2).f1))∧w'.cell? ⟨gb119,2,none⟩=some (.int .i64 ((rT y114 x31_2).f2))∧w'.cell? ⟨gb112,0,none⟩=some (.slice (some ad113) l0_0.length c0_0)∧w'.cell? (ad113.add ((((rT y114 x31_2).f0)).toNat * 3))=some (.int .i64 ((rT l0_0 ((rT y114 x31_2).f0)).f0))∧w'.cell? ⟨(ad113.add ((((rT y114 x31_2).f0)).toNat * 3)).block,(ad113.add ((((rT y114 x31_2).f0)).toNat * 3)).off+1,none⟩=some (.string ((rT l0_0 ((rT y114 x31_2).f0)).f1))∧w'.cell? ⟨(ad113.add ((((rT y114 x31_2).f0)).toNat * 3)).block,(ad113.add ((((rT y114 x31_2).f0)).toNat * 3)).off+2,none⟩=some (.int .i64 ((rT l0_0 ((rT y114 x31_2).f0)).f2))) (ds:=[]) #[n_,n_,n_,n_,n_,n_,n_,n_,n_,n_,n_,n_,n_,n_,n_,n_,n_,n_,n_,n_,n_,n_,n_,n_,n_,n_,n_,n_,n_,n_,n_,n_,n_] (by kernel_rfl) rfl rfl ⟨(bkC BK119.out 0).trans rfl,(bkC BK119.out 1).trans rfl,(bkC BK119.out 2).trans rfl,(bkC BK112.out 0).trans rfl,((HB.out.cell (World.block_lt_of_cell? w _ hw120_0)).trans hw120_0),((HB.out.cell (World.block_lt_of_cell? w _ hw120_1)).trans hw120_1),((HB.out.cell (World.block_lt_of_cell? w _ hw120_2)).trans hw120_2)⟩ (fun hHeld=>?_);refine with_tabW iFO.tab9 iFO.bits9 (fun HT_ HW_=>?_)
                   generalize w41.drew=w42 at BK112 BK119 HB hx120_0 hx120_1 hx120_2 hHeld ⊢
                   refine pure_ (i:=0) (N:=some 36) (v:=?_) (a':=?_) #[y_,n_,n_,n_,n_,n_,n_,n_,n_,n_,n_,n_,n_,n_,n_,n_,n_,n_,n_,n_,n_,n_,n_,n_,n_,n_,n_,n_,n_,n_,n_,n_,n_] rfl rfl (any_of HT_.out (by kernel_rfl)) (fun _ _ _ h=>h) (Or.inl ⟨by rfl,?_⟩) ?_ ?_;rotate_left
                   ·intro w'
                    go_simp;with_reducible rfl
                   rotate_left
                   ·simp only [Act.put,List.setIfInBounds_toArray,List.set_cons_zero,List.set_cons_succ,i64_w,i32_w]
                    rfl
                   refine take_ (i:=1) (N:=some 37) (v:=?_) (a':=?_) #[y_,y_,n_,n_,n_,n_,n_,n_,n_,n_,n_,n_,n_,n_,n_,n_,n_,n_,n_,n_,n_,n_,n_,n_,n_,n_,n_,n_,n_,n_,n_,n_,n_] rfl rfl (take_ofW HT_.out HW_.out (by kernel_rfl)) (fun _ _ _ h=>h) (Or.inl ⟨by rfl,?_⟩) hHeld ?_ ?_;rotate_left
                   ·rintro w' ⟨s0,s1,s2,s3,s4,s5,s6⟩
                    go_simp;with_reducible rfl
                   rotate_left
                   ·simp only [Act.put,List.setIfInBounds_toArray,List.set_cons_zero,List.set_cons_succ,i64_w,i32_w]
                    rfl
                   refine pure_ (i:=2) (N:=some 38) (v:=?_) (a':=?_) #[y_,y_,y_,n_,n_,n_,n_,n_,n_,n_,n_,n_,n_,n_,n_,n_,n_,n_,n_,n_,n_,n_,n_,n_,n_,n_,n_,n_,n_,n_,n_,n_,n_] rfl rfl (any_of HT_.out (by kernel_rfl)) (fun _ _ _ h=>h) (Or.inl ⟨by rfl,?_⟩) ?_ ?_;rotate_left
                   ·intro w'
                    go_simp;with_reducible rfl
                   rotate_left
                   ·simp only [Act.put,List.setIfInBounds_toArray,List.set_cons_zero,List.set_cons_succ,i64_w,i32_w]
                    rfl
                   refine pure_ (i:=3) (N:=some 39) (v:=?_) (a':=?_) #[y_,y_,y_,y_,n_,n_,n_,n_,n_,n_,n_,n_,n_,n_,n_,n_,n_,n_,n_,n_,n_,n_,n_,n_,n_,n_,n_,n_,n_,n_,n_,n_,n_] rfl rfl (any_of HT_.out (by kernel_rfl)) (fun _ _ _ h=>h) (Or.inl ⟨by rfl,?_⟩) ?_ ?_;rotate_left
                   ·intro w'
                    go_simp;with_reducible rfl
                   rotate_left
                   ·simp only [Act.put,List.setIfInBounds_toArray,List.set_cons_zero,List.set_cons_succ,i64_w,i32_w]
                    rfl
                   refine pure_ (i:=4) (N:=some 40) (v:=?_) (a':=?_) #[y_,y_,y_,y_,y_,n_,n_,n_,n_,n_,n_,n_,n_,n_,n_,n_,n_,n_,n_,n_,n_,n_,n_,n_,n_,n_,n_,n_,n_,n_,n_,n_,n_] rfl rfl (any_of HT_.out (by kernel_rfl)) (fun _ _ _ h=>h) (Or.inl ⟨by rfl,?_⟩) ?_ ?_;rotate_left
                   ·intro w'
                    go_simp;with_reducible rfl
                   rotate_left
                   ·simp only [Act.put,List.setIfInBounds_toArray,List.set_cons_zero,List.set_cons_succ,i64_w,i32_w]
                    rfl
                   refine pure_ (i:=6) (N:=some 42) (v:=?_) (a':=?_) #[y_,y_,y_,y_,y_,n_,y_,n_,n_,n_,n_,n_,n_,n_,n_,n_,n_,n_,n_,n_,n_,n_,n_,n_,n_,n_,n_,n_,n_,n_,n_,n_,n_] rfl rfl (any_of HT_.out (by kernel_rfl)) (fun _ _ _ h=>h) (Or.inl ⟨by rfl,?_⟩) ?_ ?_;rotate_left
                   ·intro w'
                    go_simp;with_reducible rfl
                   rotate_left
                   ·simp only [Act.put,List.setIfInBounds_toArray,List.set_cons_zero,List.set_cons_succ,i64_w,i32_w]
                    rfl
                   refine take_ (i:=5) (N:=some 41) (v:=?_) (a':=?_) #[y_,y_,y_,y_,y_,y_,y_,n_,n_,n_,n_,n_,n_,n_,n_,n_,n_,n_,n_,n_,n_,n_,n_,n_,n_,n_,n_,n_,n_,n_,n_,n_,n_] rfl rfl (take_ofW HT_.out HW_.out (by kernel_rfl)) (fun _ _ _ h=>h) (Or.inl ⟨by rfl,?_⟩) hHeld ?_ ?_;rotate_left
                   ·rintro w' ⟨s0,s1,s2,s3,s4,s5,s6⟩
                    go_simp;with_reducible rfl
                   rotate_left
                   ·simp only [Act.put,List.setIfInBounds_toArray,List.set_cons_zero,List.set_cons_succ,i64_w,i32_w]
                    rfl
                   refine pure_ (i:=7) (N:=some 43) (v:=?_) (a':=?_) #[y_,y_,y_,y_,y_,y_,y_,y_,n_,n_,n_,n_,n_,n_,n_,n_,n_,n_,n_,n_,n_,n_,n_,n_,n_,n_,n_,n_,n_,n_,n_,n_,n_] rfl rfl (any_of HT_.out (by kernel_rfl)) (fun _ _ _ h=>h) (Or.inl ⟨by rfl,?_⟩) ?_ ?_;rotate_left
                   ·intro w'
                    go_simp;with_reducible rfl
                   rotate_left
                   ·simp only [Act.put,List.setIfInBounds_toArray,List.set_cons_zero,List.set_cons_succ,i64_w,i32_w]
                    rfl
                   refine pure_ (i:=8) (N:=some 44) (v:=?_) (a':=?_) #[y_,y_,y_,y_,y_,y_,y_,y_,y_,n_,n_,n_,n_,n_,n_,n_,n_,n_,n_,n_,n_,n_,n_,n_,n_,n_,n_,n_,n_,n_,n_,n_,n_] rfl rfl (any_of HT_.out (by kernel_rfl)) (fun _ _ _ h=>h) (Or.inl ⟨by rfl,?_⟩) ?_ ?_;rotate_left
                   ·intro w'
                    go_simp;with_reducible rfl
                   rotate_left
                   ·simp only [Act.put,List.setIfInBounds_toArray,List.set_cons_zero,List.set_cons_succ,i64_w,i32_w]
                    rfl
                   refine pure_ (i:=9) (N:=some 45) (v:=?_) (a':=?_) #[y_,y_,y_,y_,y_,y_,y_,y_,y_,y_,n_,n_,n_,n_,n_,n_,n_,n_,n_,n_,n_,n_,n_,n_,n_,n_,n_,n_,n_,n_,n_,n_,n_] rfl rfl (any_of HT_.out (by kernel_rfl)) (fun _ _ _ h=>h) (Or.inl ⟨by rfl,?_⟩) ?_ ?_;rotate_left
                   ·intro w'
                    go_simp;with_reducible rfl
                   rotate_left
                   ·simp only [Act.put,List.setIfInBounds_toArray,List.set_cons_zero,List.set_cons_succ,i64_w,i32_w]
                    rfl
                   refine pure_ (i:=10) (N:=some 46) (v:=?_) (a':=?_) #[y_,y_,y_,y_,y_,y_,y_,y_,y_,y_,y_,n_,n_,n_,n_,n_,n_,n_,n_,n_,n_,n_,n_,n_,n_,n_,n_,n_,n_,n_,n_,n_,n_] rfl rfl (any_of HT_.out (by kernel_rfl)) (fun _ _ _ h=>h) (Or.inl ⟨by rfl,?_⟩) ?_ ?_;rotate_left
                   ·intro w'
                    go_simp;with_reducible rfl
                   rotate_left
                   ·simp only [Act.put,List.setIfInBounds_toArray,List.set_cons_zero,List.set_cons_succ,i64_w,i32_w]
                    rfl
                   refine pure_ (i:=12) (N:=some 48) (v:=?_) (a':=?_) #[y_,y_,y_,y_,y_,y_,y_,y_,y_,y_,y_,n_,y_,n_,n_,n_,n_,n_,n_,n_,n_,n_,n_,n_,n_,n_,n_,n_,n_,n_,n_,n_,n_] rfl rfl (any_of HT_.out (by kernel_rfl)) (fun _ _ _ h=>h) (Or.inl ⟨by rfl,?_⟩) ?_ ?_;rotate_left
                   ·intro w'
                    go_simp;with_reducible rfl
                   rotate_left
                   ·simp only [Act.put,List.setIfInBounds_toArray,List.set_cons_zero,List.set_cons_succ,i64_w,i32_w]
                    rfl
                   refine pure_ (i:=14) (N:=some 50) (v:=?_) (a':=?_) #[y_,y_,y_,y_,y_,y_,y_,y_,y_,y_,y_,n_,y_,n_,y_,n_,n_,n_,n_,n_,n_,n_,n_,n_,n_,n_,n_,n_,n_,n_,n_,n_,n_] rfl rfl (any_of HT_.out (by kernel_rfl)) (fun _ _ _ h=>h) (Or.inl ⟨by rfl,?_⟩) ?_ ?_;rotate_left
                   ·intro w'
                    go_simp;with_reducible rfl
                   rotate_left
                   ·simp only [Act.put,List.setIfInBounds_toArray,List.set_cons_zero,List.set_cons_succ,i64_w,i32_w]
                    rfl
                   refine take_ (i:=11) (N:=some 47) (v:=?_) (a':=?_) #[y_,y_,y_,y_,y_,y_,y_,y_,y_,y_,y_,y_,y_,n_,y_,n_,n_,n_,n_,n_,n_,n_,n_,n_,n_,n_,n_,n_,n_,n_,n_,n_,n_] rfl rfl (take_ofW HT_.out HW_.out (by kernel_rfl)) (fun _ _ _ h=>h) (Or.inl ⟨by rfl,?_⟩) hHeld ?_ ?_;rotate_left
                   ·rintro w' ⟨s0,s1,s2,s3,s4,s5,s6⟩
                    go_simp;with_reducible rfl
                   rotate_left
                   ·simp only [Act.put,List.setIfInBounds_toArray,List.set_cons_zero,List.set_cons_succ,i64_w,i32_w]
                    rfl
                   refine take_ (i:=13) (N:=some 49) (v:=?_) (a':=?_) #[y_,y_,y_,y_,y_,y_,y_,y_,y_,y_,y_,y_,y_,y_,y_,n_,n_,n_,n_,n_,n_,n_,n_,n_,n_,n_,n_,n_,n_,n_,n_,n_,n_] rfl rfl (take_ofW HT_.out HW_.out (by kernel_rfl)) (fun _ _ _ h=>h) (Or.inl ⟨by rfl,?_⟩) hHeld ?_ ?_;rotate_left
                   ·rintro w' ⟨s0,s1,s2,s3,s4,s5,s6⟩
                    go_simp;with_reducible rfl
                   rotate_left
                   ·simp only [Act.put,List.setIfInBounds_toArray,List.set_cons_zero,List.set_cons_succ,i64_w,i32_w]
                    rfl
                   refine take_ (i:=15) (N:=some 51) (v:=?_) (a':=?_) #[y_,y_,y_,y_,y_,y_,y_,y_,y_,y_,y_,y_,y_,y_,y_,y_,n_,n_,n_,n_,n_,n_,n_,n_,n_,n_,n_,n_,n_,n_,n_,n_,n_] rfl rfl (take_ofW HT_.out HW_.out (by kernel_rfl)) (fun _ _ _ h=>h) (Or.inl ⟨by rfl,?_⟩) hHeld ?_ ?_;rotate_left
                   ·rintro w' ⟨s0,s1,s2,s3,s4,s5,s6⟩
                    go_simp;with_reducible rfl
                   rotate_left
                   ·simp only [Act.put,List.setIfInBounds_toArray,List.set_cons_zero,List.set_cons_succ,i64_w,i32_w]
                    rfl
                   refine pure_ (i:=16) (N:=some 52) (v:=?_) (a':=?_) #[y_,y_,y_,y_,y_,y_,y_,y_,y_,y_,y_,y_,y_,y_,y_,y_,y_,n_,n_,n_,n_,n_,n_,n_,n_,n_,n_,n_,n_,n_,n_,n_,n_] rfl rfl (any_of HT_.out (by kernel_rfl)) (fun _ _ _ h=>h) (Or.inl ⟨by rfl,?_⟩) ?_ ?_;rotate_left
                   ·intro w'
                    go_simp;with_reducible rfl
                   rotate_left
                   ·simp only [Act.put,List.setIfInBounds_toArray,List.set_cons_zero,List.set_cons_succ,i64_w,i32_w]
                    rfl
                   refine pure_ (i:=17) (N:=some 53) (v:=?_) (a':=?_) #[y_,y_,y_,y_,y_,y_,y_,y_,y_,y_,y_,y_,y_,y_,y_,y_,y_,y_,n_,n_,n_,n_,n_,n_,n_,n_,n_,n_,n_,n_,n_,n_,n_] rfl rfl (any_of HT_.out (by kernel_rfl)) (fun _ _ _ h=>h) (Or.inl ⟨by rfl,?_⟩) ?_ ?_;rotate_left
                   ·intro w'
                    go_simp;with_reducible rfl
                   rotate_left
                   ·simp only [Act.put,List.setIfInBounds_toArray,List.set_cons_zero,List.set_cons_succ,i64_w,i32_w]
                    rfl
                   refine take_ (i:=18) (N:=some 54) (v:=?_) (a':=?_) #[y_,y_,y_,y_,y_,y_,y_,y_,y_,y_,y_,y_,y_,y_,y_,y_,y_,y_,y_,n_,n_,n_,n_,n_,n_,n_,n_,n_,n_,n_,n_,n_,n_] rfl rfl (take_ofW HT_.out HW_.out (by kernel_rfl)) (fun _ _ _ h=>h) (Or.inl ⟨by rfl,?_⟩) hHeld ?_ ?_;rotate_left
                   ·rintro w' ⟨s0,s1,s2,s3,s4,s5,s6⟩
                    go_simp;with_reducible rfl
                   rotate_left
                   ·simp only [Act.put,List.setIfInBounds_toArray,List.set_cons_zero,List.set_cons_succ,i64_w,i32_w]
                    rfl
                   refine pure_ (i:=19) (N:=some 55) (v:=?_) (a':=?_) #[y_,y_,y_,y_,y_,y_,y_,y_,y_,y_,y_,y_,y_,y_,y_,y_,y_,y_,y_,y_,n_,n_,n_,n_,n_,n_,n_,n_,n_,n_,n_,n_,n_] rfl rfl (any_of HT_.out (by kernel_rfl)) (fun _ _ _ h=>h) (Or.inl ⟨by rfl,?_⟩) ?_ ?_;rotate_left
                   ·intro w'
                    go_simp;with_reducible rfl
                   rotate_left
                   ·simp only [Act.put,List.setIfInBounds_toArray,List.set_cons_zero,List.set_cons_succ,i64_w,i32_w]
                    rfl
                   refine pure_ (i:=20) (N:=some 56) (v:=?_) (a':=?_) #[y_,y_,y_,y_,y_,y_,y_,y_,y_,y_,y_,y_,y_,y_,y_,y_,y_,y_,y_,y_,y_,n_,n_,n_,n_,n_,n_,n_,n_,n_,n_,n_,n_] rfl rfl (any_of HT_.out (by kernel_rfl)) (fun _ _ _ h=>h) (Or.inl ⟨by rfl,?_⟩) ?_ ?_;rotate_left
                   ·intro w'
                    go_simp;with_reducible rfl
                   rotate_left
                   ·simp only [Act.put,List.setIfInBounds_toArray,List.set_cons_zero,List.set_cons_succ,i64_w,i32_w]
                    rfl
                   refine pure_ (i:=21) (N:=some 57) (v:=?_) (a':=?_) #[y_,y_,y_,y_,y_,y_,y_,y_,y_,y_,y_,y_,y_,y_,y_,y_,y_,y_,y_,y_,y_,y_,n_,n_,n_,n_,n_,n_,n_,n_,n_,n_,n_] rfl rfl (any_of HT_.out (by kernel_rfl)) (fun _ _ _ h=>h) (Or.inl ⟨by rfl,?_⟩) ?_ ?_;rotate_left
                   ·intro w'
                    go_simp;with_reducible rfl
                   rotate_left
                   ·simp only [Act.put,List.setIfInBounds_toArray,List.set_cons_zero,List.set_cons_succ,i64_w,i32_w]
                    rfl
                   refine pure_ (i:=22) (N:=some 58) (v:=?_) (a':=?_) #[y_,y_,y_,y_,y_,y_,y_,y_,y_,y_,y_,y_,y_,y_,y_,y_,y_,y_,y_,y_,y_,y_,y_,n_,n_,n_,n_,n_,n_,n_,n_,n_,n_] rfl rfl (any_of HT_.out (by kernel_rfl)) (fun _ _ _ h=>h) (Or.inl ⟨by rfl,?_⟩) ?_ ?_;rotate_left
                   ·intro w'
                    go_simp;with_reducible rfl
                   rotate_left
                   ·simp only [Act.put,List.setIfInBounds_toArray,List.set_cons_zero,List.set_cons_succ,i64_w,i32_w]
                    rfl
                   refine pure_ (i:=23) (N:=some 59) (v:=?_) (a':=?_) #[y_,y_,y_,y_,y_,y_,y_,y_,y_,y_,y_,y_,y_,y_,y_,y_,y_,y_,y_,y_,y_,y_,y_,y_,n_,n_,n_,n_,n_,n_,n_,n_,n_] rfl rfl (any_of HT_.out (by kernel_rfl)) (fun _ _ _ h=>h) (Or.inl ⟨by rfl,?_⟩) ?_ ?_;rotate_left
                   ·intro w'
                    go_simp;with_reducible rfl
                   rotate_left
                   ·simp only [Act.put,List.setIfInBounds_toArray,List.set_cons_zero,List.set_cons_succ,i64_w,i32_w]
                    rfl
                   refine take_ (i:=24) (N:=some 60) (v:=?_) (a':=?_) #[y_,y_,y_,y_,y_,y_,y_,y_,y_,y_,y_,y_,y_,y_,y_,y_,y_,y_,y_,y_,y_,y_,y_,y_,y_,n_,n_,n_,n_,n_,n_,n_,n_] rfl rfl (take_ofW HT_.out HW_.out (by kernel_rfl)) (fun _ _ _ h=>h) (Or.inl ⟨by rfl,?_⟩) hHeld ?_ ?_;rotate_left
                   ·rintro w' ⟨s0,s1,s2,s3,s4,s5,s6⟩
                    go_simp;with_reducible rfl
                   rotate_left
                   ·simp only [Act.put,List.setIfInBounds_toArray,List.set_cons_zero,List.set_cons_succ,i64_w,i32_w]
                    rfl
                   refine pure_ (i:=25) (N:=some 61) (v:=?_) (a':=?_) #[y_,y_,y_,y_,y_,y_,y_,y_,y_,y_,y_,y_,y_,y_,y_,y_,y_,y_,y_,y_,y_,y_,y_,y_,y_,y_,n_,n_,n_,n_,n_,n_,n_] rfl rfl (any_of HT_.out (by kernel_rfl)) (fun _ _ _ h=>h) (Or.inl ⟨by rfl,?_⟩) ?_ ?_;rotate_left
                   ·intro w'
                    go_simp;with_reducible rfl
                   rotate_left
                   ·simp only [Act.put,List.setIfInBounds_toArray,List.set_cons_zero,List.set_cons_succ,i64_w,i32_w]
                    rfl
                   refine pure_ (i:=26) (N:=some 62) (v:=?_) (a':=?_) #[y_,y_,y_,y_,y_,y_,y_,y_,y_,y_,y_,y_,y_,y_,y_,y_,y_,y_,y_,y_,y_,y_,y_,y_,y_,y_,y_,n_,n_,n_,n_,n_,n_] rfl rfl (any_of HT_.out (by kernel_rfl)) (fun _ _ _ h=>h) (Or.inl ⟨by rfl,?_⟩) ?_ ?_;rotate_left
                   ·intro w'
                    go_simp;with_reducible rfl
                   rotate_left
                   ·simp only [Act.put,List.setIfInBounds_toArray,List.set_cons_zero,List.set_cons_succ,i64_w,i32_w]
                    rfl
                   refine pure_ (i:=27) (N:=some 63) (v:=?_) (a':=?_) #[y_,y_,y_,y_,y_,y_,y_,y_,y_,y_,y_,y_,y_,y_,y_,y_,y_,y_,y_,y_,y_,y_,y_,y_,y_,y_,y_,y_,n_,n_,n_,n_,n_] rfl rfl (any_of HT_.out (by kernel_rfl)) (fun _ _ _ h=>h) (Or.inl ⟨by rfl,?_⟩) ?_ ?_;rotate_left
                   ·intro w'
                    go_simp;with_reducible rfl
                   rotate_left
                   ·simp only [Act.put,List.setIfInBounds_toArray,List.set_cons_zero,List.set_cons_succ,i64_w,i32_w]
                    rfl
                   refine pure_ (i:=28) (N:=some 64) (v:=?_) (a':=?_) #[y_,y_,y_,y_,y_,y_,y_,y_,y_,y_,y_,y_,y_,y_,y_,y_,y_,y_,y_,y_,y_,y_,y_,y_,y_,y_,y_,y_,y_,n_,n_,n_,n_] rfl rfl (any_of HT_.out (by kernel_rfl)) (fun _ _ _ h=>h) (Or.inl ⟨by rfl,?_⟩) ?_ ?_;rotate_left
                   ·intro w'
                    go_simp;with_reducible rfl
                   rotate_left
                   ·simp only [Act.put,List.setIfInBounds_toArray,List.set_cons_zero,List.set_cons_succ,i64_w,i32_w]
                    rfl
                   refine take_ (i:=29) (N:=some 65) (v:=?_) (a':=?_) #[y_,y_,y_,y_,y_,y_,y_,y_,y_,y_,y_,y_,y_,y_,y_,y_,y_,y_,y_,y_,y_,y_,y_,y_,y_,y_,y_,y_,y_,y_,n_,n_,n_] rfl rfl (take_ofW HT_.out HW_.out (by kernel_rfl)) (fun _ _ _ h=>h) (Or.inl ⟨by rfl,?_⟩) hHeld ?_ ?_;rotate_left
                   ·rintro w' ⟨s0,s1,s2,s3,s4,s5,s6⟩
                    go_simp;with_reducible rfl
                   rotate_left
                   ·simp only [Act.put,List.setIfInBounds_toArray,List.set_cons_zero,List.set_cons_succ,i64_w,i32_w]
                    rfl
                   refine pure_ (i:=30) (N:=some 66) (v:=?_) (a':=?_) #[y_,y_,y_,y_,y_,y_,y_,y_,y_,y_,y_,y_,y_,y_,y_,y_,y_,y_,y_,y_,y_,y_,y_,y_,y_,y_,y_,y_,y_,y_,y_,n_,n_] rfl rfl (any_of HT_.out (by kernel_rfl)) (fun _ _ _ h=>h) (Or.inl ⟨by rfl,?_⟩) ?_ ?_;rotate_left
                   ·intro w'
                    go_simp;with_reducible rfl
                   rotate_left
                   ·simp only [Act.put,List.setIfInBounds_toArray,List.set_cons_zero,List.set_cons_succ,i64_w,i32_w]
                    rfl
                   refine pure_ (i:=31) (N:=some 67) (v:=?_) (a':=?_) #[y_,y_,y_,y_,y_,y_,y_,y_,y_,y_,y_,y_,y_,y_,y_,y_,y_,y_,y_,y_,y_,y_,y_,y_,y_,y_,y_,y_,y_,y_,y_,y_,n_] rfl rfl (any_of HT_.out (by kernel_rfl)) (fun _ _ _ h=>h) (Or.inl ⟨by rfl,?_⟩) ?_ ?_;rotate_left
                   ·intro w'
                    go_simp;with_reducible rfl
                   rotate_left
                   ·simp only [Act.put,List.setIfInBounds_toArray,List.set_cons_zero,List.set_cons_succ,i64_w,i32_w]
                    rfl
                   refine pure_ (i:=32) (N:=some 68) (v:=?_) (a':=?_) #[y_,y_,y_,y_,y_,y_,y_,y_,y_,y_,y_,y_,y_,y_,y_,y_,y_,y_,y_,y_,y_,y_,y_,y_,y_,y_,y_,y_,y_,y_,y_,y_,y_] rfl rfl (any_of HT_.out (by kernel_rfl)) (fun _ _ _ h=>h) (Or.inl ⟨by rfl,?_⟩) ?_ ?_;rotate_left
                   ·intro w'
                    go_simp;with_reducible rfl
                   rotate_left
                   ·simp only [Act.put,List.setIfInBounds_toArray,List.set_cons_zero,List.set_cons_succ,i64_w,i32_w]
                    rfl
                   refine done_ (done_of HT_.out (by kernel_rfl)) ?_
                   try go_wp2
                   go_ret;exact ⟨by first|rfl|(simp [errW_none,errW_some] <;> rfl)|(simp [*,errW_none,errW_some] <;> rfl),by repeat (first|(with_reducible first|exact HB.out|apply bal|apply pdN|apply bdr|refine bst ?_ GE112.out|refine bst ?_ GE119.out)|exact HB.out)⟩
                  ·rw [if_neg c37] at H
                   have c37b0:decide (4000 < (((rT y114 x31_2).f1).size:Int))=false:=decide_eq_false c37;have c37b1:decide (4000 < ((rT y114 x31_2).f1).size)=false:=decide_eq_false (by omega);clear c37
                   have H':=A0_.mk H
                   clear H;have p118:0≤(x31_2:Int):=of_decide_eq_true (by first|(with_reducible assumption)|assumption)
                   have q118:x31_2 < (y114.length:Int):=of_decide_eq_true (by first|(with_reducible assumption)|assumption);obtain ⟨ad118,e118,hx118_0,hx118_1,hx118_2⟩:=at_T75 HR117.out x31_2 p118 q118;cases e118;replace hx118_0:=(HB.out.cell (World.block_lt_of_cell? w _ hx118_0)).trans hx118_0;replace hx118_1:=(HB.out.cell (World.block_lt_of_cell? w _ hx118_1)).trans hx118_1;replace hx118_2:=(HB.out.cell (World.block_lt_of_cell? w _ hx118_2)).trans hx118_2;replace p118:=eq_true p118;replace q118:=eq_true q118
                   try go_wp2_with (first|((with_reducible refine gtD (N:=5) rfl ?_);(try (refine gtG (by rfl) ?_;dsimp only));refine bxE ?hg (N:=5) ?hd (cs:=#[.int .i64 0,.string (⟨#[]⟩:ByteArray),.int .i64 0]) (t:=75) ?hr ?_;(case hd=>rfl);(case hg=>rfl);(case hr=>first|(go_simp;done)|(go_simp;rfl));intro gb119 hg w43 hbox hb;have n0_:=A0_.mk (bkB (g:=gb112) (o:=.cells #[.slice (some ad113) l0_0.length c0_0] 36 (0,0)) (by (with_reducible repeat first|apply bkN|apply bkD|apply bkA);exact BK112.out) hb);have n1_:=A0_.mk (bsp (by repeat (first|(with_reducible first|exact HB.out|apply bal|apply pdN|apply bdr|refine bst ?_ GE112.out)|exact HB.out)) hb);have n2_:=A0_.mk (hbox);have n3_:=A0_.mk ((by rw [hg];exact (bsz (by repeat (first|(with_reducible first|exact HB.out|apply bal|apply pdN|apply bdr|refine bst ?_ GE112.out)|exact HB.out))):w.heap.size≤gb119));have n4_:=A0_.mk ((by rw [hg];exact (bsz (by repeat (first|(with_reducible first|exact HB.out|apply bal|apply pdN|apply bdr|refine bst ?_ GE112.out)|exact HB.out))):w.heap.size≤gb119));have n5_:=A0_.mk ((by rw [hg];exact Nat.ne_of_lt (blk_lt (g:=gb112) (o:=.cells #[.slice (some ad113) l0_0.length c0_0] 36 (0,0)) (by (with_reducible repeat first|apply bkN|apply bkD|apply bkA);exact BK112.out)):gb112≠gb119));have n6_:=A0_.mk ((by rw [hg];exact Nat.ne_of_gt (blk_lt (g:=gb112) (o:=.cells #[.slice (some ad113) l0_0.length c0_0] 36 (0,0)) (by (with_reducible repeat first|apply bkN|apply bkD|apply bkA);exact BK112.out)):gb119≠gb112));clear BK112;clear HB;have BK112:=n0_;have HB:=n1_;have BK119:=n2_;have GW119:=n3_;have GE119:=n4_;have NB112_119:=n5_;have NB119_112:=n6_;clear n0_ n1_ n2_ n3_ n4_ n5_ n6_;clear hb hbox hg;have hnb44:=NB119_112.out;have hnc44:=NB112_119.out;have hcz45_0:w43.cell? ⟨gb119,0,none⟩=some (.int .i64 0):=(bkC BK119.out 0).trans rfl;have hcz45_1:w43.cell? ⟨gb119,1,none⟩=some (.string (⟨#[]⟩:ByteArray)):=(bkC BK119.out 1).trans rfl;have hcz45_2:w43.cell? ⟨gb119,2,none⟩=some (.int .i64 0):=(bkC BK119.out 2).trans rfl;have hfz45_0:=bkF BK119.out 0;have hfz45_1:=bkF BK119.out 1;have hfz45_2:=bkF BK119.out 2))
                   have n0_:A0_ ((((w43.setCell ⟨gb119,0,none⟩ (.int .i64 ((rT y114 x31_2).f0))).setCell ⟨gb119,1,none⟩ (.string ((rT y114 x31_2).f1))).setCell ⟨gb119,2,none⟩ (.int .i64 ((rT y114 x31_2).f2))).heap[gb112]? = some (.cells #[.slice (some ad113) l0_0.length c0_0] 36 (0,0))):=⟨by (with_reducible repeat first|apply bkN|apply bkD|apply bkA);refine bkf ?_ NB112_119.out _;(with_reducible repeat first|apply bkN|apply bkD|apply bkA);refine bkf ?_ NB112_119.out _;(with_reducible repeat first|apply bkN|apply bkD|apply bkA);refine bkf ?_ NB112_119.out _;(with_reducible repeat first|apply bkN|apply bkD|apply bkA);exact BK112.out⟩;have n1_:A0_ ((((w43.setCell ⟨gb119,0,none⟩ (.int .i64 ((rT y114 x31_2).f0))).setCell ⟨gb119,1,none⟩ (.string ((rT y114 x31_2).f1))).setCell ⟨gb119,2,none⟩ (.int .i64 ((rT y114 x31_2).f2))).heap[gb119]? = some (.cells #[.int .i64 ((rT y114 x31_2).f0),.string ((rT y114 x31_2).f1),.int .i64 ((rT y114 x31_2).f2)] 75 (0,0))):=⟨by (with_reducible repeat first|apply bkN|apply bkD|apply bkA);refine bkP (cs:=#[.int .i64 ((rT y114 x31_2).f0),.string ((rT y114 x31_2).f1),.int .i64 0]) ?_ 2 _ rfl;(with_reducible repeat first|apply bkN|apply bkD|apply bkA);refine bkP (cs:=#[.int .i64 ((rT y114 x31_2).f0),.string (⟨#[]⟩:ByteArray),.int .i64 0]) ?_ 1 _ rfl;(with_reducible repeat first|apply bkN|apply bkD|apply bkA);refine bkP (cs:=#[.int .i64 0,.string (⟨#[]⟩:ByteArray),.int .i64 0]) ?_ 0 _ rfl;(with_reducible repeat first|apply bkN|apply bkD|apply bkA);exact BK119.out⟩;have n2_:A0_ (Below w.heap.size w (((w43.setCell ⟨gb119,0,none⟩ (.int .i64 ((rT y114 x31_2).f0))).setCell ⟨gb119,1,none⟩ (.string ((rT y114 x31_2).f1))).setCell ⟨gb119,2,none⟩ (.int .i64 ((rT y114 x31_2).f2)))):=⟨by repeat (first|(with_reducible first|exact HB.out|apply bal|apply pdN|apply bdr|refine bst ?_ GE112.out|refine bst ?_ GE119.out)|exact HB.out)⟩;(try clear BK112);(try clear BK119);(try clear HB)
                   generalize (((w43.setCell ⟨gb119,0,none⟩ (.int .i64 ((rT y114 x31_2).f0))).setCell ⟨gb119,1,none⟩ (.string ((rT y114 x31_2).f1))).setCell ⟨gb119,2,none⟩ (.int .i64 ((rT y114 x31_2).f2)))=w46 at n0_ n1_ n2_ ⊢
                   have BK112:=n0_;have BK119:=n1_;have HB:=n2_;clear n0_ n1_ n2_;have n0_:=A0_.mk (bkD BK112.out);have n1_:=A0_.mk (bkD BK119.out);have n2_:=A0_.mk (bdr HB.out);clear BK112;clear BK119;clear HB;have BK112:=n0_;have BK119:=n1_;have HB:=n2_;clear n0_ n1_ n2_;have p120:0≤(((rT y114 x31_2).f0):Int):=of_decide_eq_true (by first|(with_reducible assumption)|assumption)
                   have q120:((rT y114 x31_2).f0) < (l0_0.length:Int):=of_decide_eq_true (by first|(with_reducible assumption)|assumption)
                   obtain ⟨ad120,e120,hx120_0,hx120_1,hx120_2⟩:=at_T75 HR0_0.out ((rT y114 x31_2).f0) p120 q120;have hw120_2:=hx120_2;have hw120_1:=hx120_1;have hw120_0:=hx120_0
                   obtain rfl:ad113=ad120:=(by injection e120)
                   replace hx120_0:=(HB.out.cell (World.block_lt_of_cell? w _ hx120_0)).trans hx120_0;replace hx120_1:=(HB.out.cell (World.block_lt_of_cell? w _ hx120_1)).trans hx120_1;replace hx120_2:=(HB.out.cell (World.block_lt_of_cell? w _ hx120_2)).trans hx120_2;replace p120:=eq_true p120;replace q120:=eq_true q120;refine start_ (n:=33) (S:=fun w'=>w'.cell? ⟨gb119,0,none⟩=some (.int .i64 ((rT y114 x31_2).f0))∧w'.cell? ⟨gb119,1,none⟩=some (.string ((rT y114 x31_2).f1))∧w'.cell? ⟨gb119,2,none⟩=some (.int .i64 ((rT y114 x31_2).f2))∧w'.cell? ⟨gb112,0,none⟩=some (.slice (some ad113) l0_0.length c0_0)∧w'.cell? (ad113.add ((((rT y114 x31_2).f0)).toNat * 3))=some (.int .i64 ((rT l0_0 ((rT y114 x31_2).f0)).f0))∧w'.cell? ⟨(ad113.add ((((rT y114 x31_2).f0)).toNat * 3)).block,(ad113.add ((((rT y114 x31_2).f0)).toNat * 3)).off+1,none⟩=some (.string ((rT l0_0 ((rT y114 x31_2).f0)).f1))∧w'.cell? ⟨(ad113.add ((((rT y114 x31_2).f0)).toNat * 3)).block,(ad113.add ((((rT y114 x31_2).f0)).toNat * 3)).off+2,none⟩=some (.int .i64 ((rT l0_0 ((rT y114 x31_2).f0)).f2))) (ds:=[]) #[n_,n_,n_,n_,n_,n_,n_,n_,n_,n_,n_,n_,n_,n_,n_,n_,n_,n_,n_,n_,n_,n_,n_,n_,n_,n_,n_,n_,n_,n_,n_,n_,n_] (by kernel_rfl) rfl rfl ⟨(bkC BK119.out 0).trans rfl,(bkC BK119.out 1).trans rfl,(bkC BK119.out 2).trans rfl,(bkC BK112.out 0).trans rfl,((HB.out.cell (World.block_lt_of_cell? w _ hw120_0)).trans hw120_0),((HB.out.cell (World.block_lt_of_cell? w _ hw120_1)).trans hw120_1),((HB.out.cell (World.block_lt_of_cell? w _ hw120_2)).trans hw120_2)⟩ (fun hHeld=>?_);refine with_tabW iFO.tab9 iFO.bits9 (fun HT_ HW_=>?_)
                   generalize w46.drew=w47 at BK112 BK119 HB hx120_0 hx120_1 hx120_2 hHeld ⊢
                   refine pure_ (i:=0) (N:=some 36) (v:=?_) (a':=?_) #[y_,n_,n_,n_,n_,n_,n_,n_,n_,n_,n_,n_,n_,n_,n_,n_,n_,n_,n_,n_,n_,n_,n_,n_,n_,n_,n_,n_,n_,n_,n_,n_,n_] rfl rfl (any_of HT_.out (by kernel_rfl)) (fun _ _ _ h=>h) (Or.inl ⟨by rfl,?_⟩) ?_ ?_;rotate_left
                   ·intro w'
                    go_simp;with_reducible rfl
                   rotate_left
                   ·simp only [Act.put,List.setIfInBounds_toArray,List.set_cons_zero,List.set_cons_succ,i64_w,i32_w]
                    rfl
                   refine take_ (i:=1) (N:=some 37) (v:=?_) (a':=?_) #[y_,y_,n_,n_,n_,n_,n_,n_,n_,n_,n_,n_,n_,n_,n_,n_,n_,n_,n_,n_,n_,n_,n_,n_,n_,n_,n_,n_,n_,n_,n_,n_,n_] rfl rfl (take_ofW HT_.out HW_.out (by kernel_rfl)) (fun _ _ _ h=>h) (Or.inl ⟨by rfl,?_⟩) hHeld ?_ ?_;rotate_left
                   ·rintro w' ⟨s0,s1,s2,s3,s4,s5,s6⟩
                    go_simp;with_reducible rfl
                   rotate_left
                   ·simp only [Act.put,List.setIfInBounds_toArray,List.set_cons_zero,List.set_cons_succ,i64_w,i32_w]
                    rfl
                   refine pure_ (i:=2) (N:=some 38) (v:=?_) (a':=?_) #[y_,y_,y_,n_,n_,n_,n_,n_,n_,n_,n_,n_,n_,n_,n_,n_,n_,n_,n_,n_,n_,n_,n_,n_,n_,n_,n_,n_,n_,n_,n_,n_,n_] rfl rfl (any_of HT_.out (by kernel_rfl)) (fun _ _ _ h=>h) (Or.inl ⟨by rfl,?_⟩) ?_ ?_;rotate_left
                   ·intro w'
                    go_simp;with_reducible rfl
                   rotate_left
                   ·simp only [Act.put,List.setIfInBounds_toArray,List.set_cons_zero,List.set_cons_succ,i64_w,i32_w]
                    rfl
                   refine pure_ (i:=3) (N:=some 39) (v:=?_) (a':=?_) #[y_,y_,y_,y_,n_,n_,n_,n_,n_,n_,n_,n_,n_,n_,n_,n_,n_,n_,n_,n_,n_,n_,n_,n_,n_,n_,n_,n_,n_,n_,n_,n_,n_] rfl rfl (any_of HT_.out (by kernel_rfl)) (fun _ _ _ h=>h) (Or.inl ⟨by rfl,?_⟩) ?_ ?_;rotate_left
                   ·intro w'
                    go_simp;with_reducible rfl
                   rotate_left
                   ·simp only [Act.put,List.setIfInBounds_toArray,List.set_cons_zero,List.set_cons_succ,i64_w,i32_w]
                    rfl
                   refine pure_ (i:=4) (N:=some 40) (v:=?_) (a':=?_) #[y_,y_,y_,y_,y_,n_,n_,n_,n_,n_,n_,n_,n_,n_,n_,n_,n_,n_,n_,n_,n_,n_,n_,n_,n_,n_,n_,n_,n_,n_,n_,n_,n_] rfl rfl (any_of HT_.out (by kernel_rfl)) (fun _ _ _ h=>h) (Or.inl ⟨by rfl,?_⟩) ?_ ?_;rotate_left
                   ·intro w'
                    go_simp;with_reducible rfl
                   rotate_left
                   ·simp only [Act.put,List.setIfInBounds_toArray,List.set_cons_zero,List.set_cons_succ,i64_w,i32_w]
                    rfl
                   refine pure_ (i:=6) (N:=some 42) (v:=?_) (a':=?_) #[y_,y_,y_,y_,y_,n_,y_,n_,n_,n_,n_,n_,n_,n_,n_,n_,n_,n_,n_,n_,n_,n_,n_,n_,n_,n_,n_,n_,n_,n_,n_,n_,n_] rfl rfl (any_of HT_.out (by kernel_rfl)) (fun _ _ _ h=>h) (Or.inl ⟨by rfl,?_⟩) ?_ ?_;rotate_left
                   ·intro w'
                    go_simp;with_reducible rfl
                   rotate_left
                   ·simp only [Act.put,List.setIfInBounds_toArray,List.set_cons_zero,List.set_cons_succ,i64_w,i32_w]
                    rfl
                   refine take_ (i:=5) (N:=some 41) (v:=?_) (a':=?_) #[y_,y_,y_,y_,y_,y_,y_,n_,n_,n_,n_,n_,n_,n_,n_,n_,n_,n_,n_,n_,n_,n_,n_,n_,n_,n_,n_,n_,n_,n_,n_,n_,n_] rfl rfl (take_ofW HT_.out HW_.out (by kernel_rfl)) (fun _ _ _ h=>h) (Or.inl ⟨by rfl,?_⟩) hHeld ?_ ?_;rotate_left
                   ·rintro w' ⟨s0,s1,s2,s3,s4,s5,s6⟩
                    go_simp;with_reducible rfl
                   rotate_left
                   ·simp only [Act.put,List.setIfInBounds_toArray,List.set_cons_zero,List.set_cons_succ,i64_w,i32_w]
                    rfl
                   refine pure_ (i:=7) (N:=some 43) (v:=?_) (a':=?_) #[y_,y_,y_,y_,y_,y_,y_,y_,n_,n_,n_,n_,n_,n_,n_,n_,n_,n_,n_,n_,n_,n_,n_,n_,n_,n_,n_,n_,n_,n_,n_,n_,n_] rfl rfl (any_of HT_.out (by kernel_rfl)) (fun _ _ _ h=>h) (Or.inl ⟨by rfl,?_⟩) ?_ ?_;rotate_left
                   ·intro w'
                    go_simp;with_reducible rfl
                   rotate_left
                   ·simp only [Act.put,List.setIfInBounds_toArray,List.set_cons_zero,List.set_cons_succ,i64_w,i32_w]
                    rfl
                   refine pure_ (i:=8) (N:=some 44) (v:=?_) (a':=?_) #[y_,y_,y_,y_,y_,y_,y_,y_,y_,n_,n_,n_,n_,n_,n_,n_,n_,n_,n_,n_,n_,n_,n_,n_,n_,n_,n_,n_,n_,n_,n_,n_,n_] rfl rfl (any_of HT_.out (by kernel_rfl)) (fun _ _ _ h=>h) (Or.inl ⟨by rfl,?_⟩) ?_ ?_;rotate_left
                   ·intro w'
                    go_simp;with_reducible rfl
                   rotate_left
                   ·simp only [Act.put,List.setIfInBounds_toArray,List.set_cons_zero,List.set_cons_succ,i64_w,i32_w]
                    rfl
                   refine pure_ (i:=9) (N:=some 45) (v:=?_) (a':=?_) #[y_,y_,y_,y_,y_,y_,y_,y_,y_,y_,n_,n_,n_,n_,n_,n_,n_,n_,n_,n_,n_,n_,n_,n_,n_,n_,n_,n_,n_,n_,n_,n_,n_] rfl rfl (any_of HT_.out (by kernel_rfl)) (fun _ _ _ h=>h) (Or.inl ⟨by rfl,?_⟩) ?_ ?_;rotate_left
                   ·intro w'
                    go_simp;with_reducible rfl
                   rotate_left
                   ·simp only [Act.put,List.setIfInBounds_toArray,List.set_cons_zero,List.set_cons_succ,i64_w,i32_w]
                    rfl
                   refine pure_ (i:=10) (N:=some 46) (v:=?_) (a':=?_) #[y_,y_,y_,y_,y_,y_,y_,y_,y_,y_,y_,n_,n_,n_,n_,n_,n_,n_,n_,n_,n_,n_,n_,n_,n_,n_,n_,n_,n_,n_,n_,n_,n_] rfl rfl (any_of HT_.out (by kernel_rfl)) (fun _ _ _ h=>h) (Or.inl ⟨by rfl,?_⟩) ?_ ?_;rotate_left
                   ·intro w'
                    go_simp;with_reducible rfl
                   rotate_left
                   ·simp only [Act.put,List.setIfInBounds_toArray,List.set_cons_zero,List.set_cons_succ,i64_w,i32_w]
                    rfl
                   refine pure_ (i:=12) (N:=some 48) (v:=?_) (a':=?_) #[y_,y_,y_,y_,y_,y_,y_,y_,y_,y_,y_,n_,y_,n_,n_,n_,n_,n_,n_,n_,n_,n_,n_,n_,n_,n_,n_,n_,n_,n_,n_,n_,n_] rfl rfl (any_of HT_.out (by kernel_rfl)) (fun _ _ _ h=>h) (Or.inl ⟨by rfl,?_⟩) ?_ ?_;rotate_left
                   ·intro w'
                    go_simp;with_reducible rfl
                   rotate_left
                   ·simp only [Act.put,List.setIfInBounds_toArray,List.set_cons_zero,List.set_cons_succ,i64_w,i32_w]
                    rfl
                   refine pure_ (i:=14) (N:=some 50) (v:=?_) (a':=?_) #[y_,y_,y_,y_,y_,y_,y_,y_,y_,y_,y_,n_,y_,n_,y_,n_,n_,n_,n_,n_,n_,n_,n_,n_,n_,n_,n_,n_,n_,n_,n_,n_,n_] rfl rfl (any_of HT_.out (by kernel_rfl)) (fun _ _ _ h=>h) (Or.inl ⟨by rfl,?_⟩) ?_ ?_;rotate_left
                   ·intro w'
                    go_simp;with_reducible rfl
                   rotate_left
                   ·simp only [Act.put,List.setIfInBounds_toArray,List.set_cons_zero,List.set_cons_succ,i64_w,i32_w]
                    rfl
                   refine take_ (i:=11) (N:=some 47) (v:=?_) (a':=?_) #[y_,y_,y_,y_,y_,y_,y_,y_,y_,y_,y_,y_,y_,n_,y_,n_,n_,n_,n_,n_,n_,n_,n_,n_,n_,n_,n_,n_,n_,n_,n_,n_,n_] rfl rfl (take_ofW HT_.out HW_.out (by kernel_rfl)) (fun _ _ _ h=>h) (Or.inl ⟨by rfl,?_⟩) hHeld ?_ ?_;rotate_left
                   ·rintro w' ⟨s0,s1,s2,s3,s4,s5,s6⟩
                    go_simp;with_reducible rfl
                   rotate_left
                   ·simp only [Act.put,List.setIfInBounds_toArray,List.set_cons_zero,List.set_cons_succ,i64_w,i32_w]
                    rfl
                   refine take_ (i:=13) (N:=some 49) (v:=?_) (a':=?_) #[y_,y_,y_,y_,y_,y_,y_,y_,y_,y_,y_,y_,y_,y_,y_,n_,n_,n_,n_,n_,n_,n_,n_,n_,n_,n_,n_,n_,n_,n_,n_,n_,n_] rfl rfl (take_ofW HT_.out HW_.out (by kernel_rfl)) (fun _ _ _ h=>h) (Or.inl ⟨by rfl,?_⟩) hHeld ?_ ?_;rotate_left
                   ·rintro w' ⟨s0,s1,s2,s3,s4,s5,s6⟩
                    go_simp;with_reducible rfl
                   rotate_left
                   ·simp only [Act.put,List.setIfInBounds_toArray,List.set_cons_zero,List.set_cons_succ,i64_w,i32_w]
                    rfl
                   refine take_ (i:=15) (N:=some 51) (v:=?_) (a':=?_) #[y_,y_,y_,y_,y_,y_,y_,y_,y_,y_,y_,y_,y_,y_,y_,y_,n_,n_,n_,n_,n_,n_,n_,n_,n_,n_,n_,n_,n_,n_,n_,n_,n_] rfl rfl (take_ofW HT_.out HW_.out (by kernel_rfl)) (fun _ _ _ h=>h) (Or.inl ⟨by rfl,?_⟩) hHeld ?_ ?_;rotate_left
                   ·rintro w' ⟨s0,s1,s2,s3,s4,s5,s6⟩
                    go_simp;with_reducible rfl
                   rotate_left
                   ·simp only [Act.put,List.setIfInBounds_toArray,List.set_cons_zero,List.set_cons_succ,i64_w,i32_w]
                    rfl
                   refine pure_ (i:=16) (N:=some 52) (v:=?_) (a':=?_) #[y_,y_,y_,y_,y_,y_,y_,y_,y_,y_,y_,y_,y_,y_,y_,y_,y_,n_,n_,n_,n_,n_,n_,n_,n_,n_,n_,n_,n_,n_,n_,n_,n_] rfl rfl (any_of HT_.out (by kernel_rfl)) (fun _ _ _ h=>h) (Or.inl ⟨by rfl,?_⟩) ?_ ?_;rotate_left
                   ·intro w'
                    go_simp;with_reducible rfl
                   rotate_left
                   ·simp only [Act.put,List.setIfInBounds_toArray,List.set_cons_zero,List.set_cons_succ,i64_w,i32_w]
                    rfl
                   refine pure_ (i:=17) (N:=some 53) (v:=?_) (a':=?_) #[y_,y_,y_,y_,y_,y_,y_,y_,y_,y_,y_,y_,y_,y_,y_,y_,y_,y_,n_,n_,n_,n_,n_,n_,n_,n_,n_,n_,n_,n_,n_,n_,n_] rfl rfl (any_of HT_.out (by kernel_rfl)) (fun _ _ _ h=>h) (Or.inl ⟨by rfl,?_⟩) ?_ ?_;rotate_left
                   ·intro w'
                    go_simp;with_reducible rfl
                   rotate_left
                   ·simp only [Act.put,List.setIfInBounds_toArray,List.set_cons_zero,List.set_cons_succ,i64_w,i32_w]
                    rfl
                   refine take_ (i:=18) (N:=some 54) (v:=?_) (a':=?_) #[y_,y_,y_,y_,y_,y_,y_,y_,y_,y_,y_,y_,y_,y_,y_,y_,y_,y_,y_,n_,n_,n_,n_,n_,n_,n_,n_,n_,n_,n_,n_,n_,n_] rfl rfl (take_ofW HT_.out HW_.out (by kernel_rfl)) (fun _ _ _ h=>h) (Or.inl ⟨by rfl,?_⟩) hHeld ?_ ?_;rotate_left
                   ·rintro w' ⟨s0,s1,s2,s3,s4,s5,s6⟩
                    go_simp;with_reducible rfl
                   rotate_left
                   ·simp only [Act.put,List.setIfInBounds_toArray,List.set_cons_zero,List.set_cons_succ,i64_w,i32_w]
                    rfl
                   refine pure_ (i:=19) (N:=some 55) (v:=?_) (a':=?_) #[y_,y_,y_,y_,y_,y_,y_,y_,y_,y_,y_,y_,y_,y_,y_,y_,y_,y_,y_,y_,n_,n_,n_,n_,n_,n_,n_,n_,n_,n_,n_,n_,n_] rfl rfl (any_of HT_.out (by kernel_rfl)) (fun _ _ _ h=>h) (Or.inl ⟨by rfl,?_⟩) ?_ ?_;rotate_left
                   ·intro w'
                    go_simp;with_reducible rfl
                   rotate_left
                   ·simp only [Act.put,List.setIfInBounds_toArray,List.set_cons_zero,List.set_cons_succ,i64_w,i32_w]
                    rfl
                   refine pure_ (i:=20) (N:=some 56) (v:=?_) (a':=?_) #[y_,y_,y_,y_,y_,y_,y_,y_,y_,y_,y_,y_,y_,y_,y_,y_,y_,y_,y_,y_,y_,n_,n_,n_,n_,n_,n_,n_,n_,n_,n_,n_,n_] rfl rfl (any_of HT_.out (by kernel_rfl)) (fun _ _ _ h=>h) (Or.inl ⟨by rfl,?_⟩) ?_ ?_;rotate_left
                   ·intro w'
                    go_simp;with_reducible rfl
                   rotate_left
                   ·simp only [Act.put,List.setIfInBounds_toArray,List.set_cons_zero,List.set_cons_succ,i64_w,i32_w]
                    rfl
                   refine pure_ (i:=21) (N:=some 57) (v:=?_) (a':=?_) #[y_,y_,y_,y_,y_,y_,y_,y_,y_,y_,y_,y_,y_,y_,y_,y_,y_,y_,y_,y_,y_,y_,n_,n_,n_,n_,n_,n_,n_,n_,n_,n_,n_] rfl rfl (any_of HT_.out (by kernel_rfl)) (fun _ _ _ h=>h) (Or.inl ⟨by rfl,?_⟩) ?_ ?_;rotate_left
                   ·intro w'
                    go_simp;with_reducible rfl
                   rotate_left
                   ·simp only [Act.put,List.setIfInBounds_toArray,List.set_cons_zero,List.set_cons_succ,i64_w,i32_w]
                    rfl
                   refine pure_ (i:=22) (N:=some 58) (v:=?_) (a':=?_) #[y_,y_,y_,y_,y_,y_,y_,y_,y_,y_,y_,y_,y_,y_,y_,y_,y_,y_,y_,y_,y_,y_,y_,n_,n_,n_,n_,n_,n_,n_,n_,n_,n_] rfl rfl (any_of HT_.out (by kernel_rfl)) (fun _ _ _ h=>h) (Or.inl ⟨by rfl,?_⟩) ?_ ?_;rotate_left
                   ·intro w'
                    go_simp;with_reducible rfl
                   rotate_left
                   ·simp only [Act.put,List.setIfInBounds_toArray,List.set_cons_zero,List.set_cons_succ,i64_w,i32_w]
                    rfl
                   refine pure_ (i:=23) (N:=some 59) (v:=?_) (a':=?_) #[y_,y_,y_,y_,y_,y_,y_,y_,y_,y_,y_,y_,y_,y_,y_,y_,y_,y_,y_,y_,y_,y_,y_,y_,n_,n_,n_,n_,n_,n_,n_,n_,n_] rfl rfl (any_of HT_.out (by kernel_rfl)) (fun _ _ _ h=>h) (Or.inl ⟨by rfl,?_⟩) ?_ ?_;rotate_left
                   ·intro w'
                    go_simp;with_reducible rfl
                   rotate_left
                   ·simp only [Act.put,List.setIfInBounds_toArray,List.set_cons_zero,List.set_cons_succ,i64_w,i32_w]
                    rfl
                   refine take_ (i:=24) (N:=some 60) (v:=?_) (a':=?_) #[y_,y_,y_,y_,y_,y_,y_,y_,y_,y_,y_,y_,y_,y_,y_,y_,y_,y_,y_,y_,y_,y_,y_,y_,y_,n_,n_,n_,n_,n_,n_,n_,n_] rfl rfl (take_ofW HT_.out HW_.out (by kernel_rfl)) (fun _ _ _ h=>h) (Or.inl ⟨by rfl,?_⟩) hHeld ?_ ?_;rotate_left
                   ·rintro w' ⟨s0,s1,s2,s3,s4,s5,s6⟩
                    go_simp;with_reducible rfl
                   rotate_left
                   ·simp only [Act.put,List.setIfInBounds_toArray,List.set_cons_zero,List.set_cons_succ,i64_w,i32_w]
                    rfl
                   refine pure_ (i:=25) (N:=some 61) (v:=?_) (a':=?_) #[y_,y_,y_,y_,y_,y_,y_,y_,y_,y_,y_,y_,y_,y_,y_,y_,y_,y_,y_,y_,y_,y_,y_,y_,y_,y_,n_,n_,n_,n_,n_,n_,n_] rfl rfl (any_of HT_.out (by kernel_rfl)) (fun _ _ _ h=>h) (Or.inl ⟨by rfl,?_⟩) ?_ ?_;rotate_left
                   ·intro w'
                    go_simp;with_reducible rfl
                   rotate_left
                   ·simp only [Act.put,List.setIfInBounds_toArray,List.set_cons_zero,List.set_cons_succ,i64_w,i32_w]
                    rfl
                   refine pure_ (i:=26) (N:=some 62) (v:=?_) (a':=?_) #[y_,y_,y_,y_,y_,y_,y_,y_,y_,y_,y_,y_,y_,y_,y_,y_,y_,y_,y_,y_,y_,y_,y_,y_,y_,y_,y_,n_,n_,n_,n_,n_,n_] rfl rfl (any_of HT_.out (by kernel_rfl)) (fun _ _ _ h=>h) (Or.inl ⟨by rfl,?_⟩) ?_ ?_;rotate_left
                   ·intro w'
                    go_simp;with_reducible rfl
                   rotate_left
                   ·simp only [Act.put,List.setIfInBounds_toArray,List.set_cons_zero,List.set_cons_succ,i64_w,i32_w]
                    rfl
                   refine pure_ (i:=27) (N:=some 63) (v:=?_) (a':=?_) #[y_,y_,y_,y_,y_,y_,y_,y_,y_,y_,y_,y_,y_,y_,y_,y_,y_,y_,y_,y_,y_,y_,y_,y_,y_,y_,y_,y_,n_,n_,n_,n_,n_] rfl rfl (any_of HT_.out (by kernel_rfl)) (fun _ _ _ h=>h) (Or.inl ⟨by rfl,?_⟩) ?_ ?_;rotate_left
                   ·intro w'
                    go_simp;with_reducible rfl
                   rotate_left
                   ·simp only [Act.put,List.setIfInBounds_toArray,List.set_cons_zero,List.set_cons_succ,i64_w,i32_w]
                    rfl
                   refine pure_ (i:=28) (N:=some 64) (v:=?_) (a':=?_) #[y_,y_,y_,y_,y_,y_,y_,y_,y_,y_,y_,y_,y_,y_,y_,y_,y_,y_,y_,y_,y_,y_,y_,y_,y_,y_,y_,y_,y_,n_,n_,n_,n_] rfl rfl (any_of HT_.out (by kernel_rfl)) (fun _ _ _ h=>h) (Or.inl ⟨by rfl,?_⟩) ?_ ?_;rotate_left
                   ·intro w'
                    go_simp;with_reducible rfl
                   rotate_left
                   ·simp only [Act.put,List.setIfInBounds_toArray,List.set_cons_zero,List.set_cons_succ,i64_w,i32_w]
                    rfl
                   refine take_ (i:=29) (N:=some 65) (v:=?_) (a':=?_) #[y_,y_,y_,y_,y_,y_,y_,y_,y_,y_,y_,y_,y_,y_,y_,y_,y_,y_,y_,y_,y_,y_,y_,y_,y_,y_,y_,y_,y_,y_,n_,n_,n_] rfl rfl (take_ofW HT_.out HW_.out (by kernel_rfl)) (fun _ _ _ h=>h) (Or.inl ⟨by rfl,?_⟩) hHeld ?_ ?_;rotate_left
                   ·rintro w' ⟨s0,s1,s2,s3,s4,s5,s6⟩
                    go_simp;with_reducible rfl
                   rotate_left
                   ·simp only [Act.put,List.setIfInBounds_toArray,List.set_cons_zero,List.set_cons_succ,i64_w,i32_w]
                    rfl
                   refine pure_ (i:=30) (N:=some 66) (v:=?_) (a':=?_) #[y_,y_,y_,y_,y_,y_,y_,y_,y_,y_,y_,y_,y_,y_,y_,y_,y_,y_,y_,y_,y_,y_,y_,y_,y_,y_,y_,y_,y_,y_,y_,n_,n_] rfl rfl (any_of HT_.out (by kernel_rfl)) (fun _ _ _ h=>h) (Or.inl ⟨by rfl,?_⟩) ?_ ?_;rotate_left
                   ·intro w'
                    go_simp;with_reducible rfl
                   rotate_left
                   ·simp only [Act.put,List.setIfInBounds_toArray,List.set_cons_zero,List.set_cons_succ,i64_w,i32_w]
                    rfl
                   refine pure_ (i:=31) (N:=some 67) (v:=?_) (a':=?_) #[y_,y_,y_,y_,y_,y_,y_,y_,y_,y_,y_,y_,y_,y_,y_,y_,y_,y_,y_,y_,y_,y_,y_,y_,y_,y_,y_,y_,y_,y_,y_,y_,n_] rfl rfl (any_of HT_.out (by kernel_rfl)) (fun _ _ _ h=>h) (Or.inl ⟨by rfl,?_⟩) ?_ ?_;rotate_left
                   ·intro w'
                    go_simp;with_reducible rfl
                   rotate_left
                   ·simp only [Act.put,List.setIfInBounds_toArray,List.set_cons_zero,List.set_cons_succ,i64_w,i32_w]
                    rfl
                   refine pure_ (i:=32) (N:=some 68) (v:=?_) (a':=?_) #[y_,y_,y_,y_,y_,y_,y_,y_,y_,y_,y_,y_,y_,y_,y_,y_,y_,y_,y_,y_,y_,y_,y_,y_,y_,y_,y_,y_,y_,y_,y_,y_,y_] rfl rfl (any_of HT_.out (by kernel_rfl)) (fun _ _ _ h=>h) (Or.inl ⟨by rfl,?_⟩) ?_ ?_;rotate_left
                   ·intro w'
                    go_simp;with_reducible rfl
                   rotate_left
                   ·simp only [Act.put,List.setIfInBounds_toArray,List.set_cons_zero,List.set_cons_succ,i64_w,i32_w]
                    rfl
                   refine done_ (done_of HT_.out (by kernel_rfl)) ?_
                   try go_wp2
                   go_roundg k2
                   case measure=>have:=HJ1.out;have:=HK2.out;omega
                   case rel=>exact ⟨(wrap64 (x31_2+1)),(by first|rfl|(simp;done)|(simp [*];done)),H',⟨by have:=HJ1.out;have:=HK2.out;omega⟩,⟨by (with_reducible repeat first|apply bkN|apply bkD|apply bkA);exact BK112.out⟩,⟨by repeat (first|(with_reducible first|exact HB.out|apply bal|apply pdN|apply bdr|refine bst ?_ GE112.out|refine bst ?_ GE119.out)|exact HB.out)⟩⟩
                ·rw [if_neg c30] at H
                 have c30b0:(((rT y114 x31_2).f2)==(wrap64 (((rT l0_0 ((rT y114 x31_2).f0)).f2)+1)))=false:=beq_eq_false_iff_ne.mpr c30;have c30b1:(((rT y114 x31_2).f2) != (wrap64 (((rT l0_0 ((rT y114 x31_2).f0)).f2)+1)))=true:=bne_iff_ne.mpr c30
                 obtain rfl:=Option.some.inj H
                 have p118:0≤(x31_2:Int):=of_decide_eq_true (by first|(with_reducible assumption)|assumption)
                 have q118:x31_2 < (y114.length:Int):=of_decide_eq_true (by first|(with_reducible assumption)|assumption);obtain ⟨ad118,e118,hx118_0,hx118_1,hx118_2⟩:=at_T75 HR117.out x31_2 p118 q118;cases e118;replace hx118_0:=(HB.out.cell (World.block_lt_of_cell? w _ hx118_0)).trans hx118_0;replace hx118_1:=(HB.out.cell (World.block_lt_of_cell? w _ hx118_1)).trans hx118_1;replace hx118_2:=(HB.out.cell (World.block_lt_of_cell? w _ hx118_2)).trans hx118_2;replace p118:=eq_true p118;replace q118:=eq_true q118
                 try go_wp2_with (first|((with_reducible refine gtD (N:=5) rfl ?_);(try (refine gtG (by rfl) ?_;dsimp only));refine bxE ?hg (N:=5) ?hd (cs:=#[.int .i64 0,.string (⟨#[]⟩:ByteArray),.int .i64 0]) (t:=75) ?hr ?_;(case hd=>rfl);(case hg=>rfl);(case hr=>first|(go_simp;done)|(go_simp;rfl));intro gb119 hg w48 hbox hb;have n0_:=A0_.mk (bkB (g:=gb112) (o:=.cells #[.slice (some ad113) l0_0.length c0_0] 36 (0,0)) (by (with_reducible repeat first|apply bkN|apply bkD|apply bkA);exact BK112.out) hb);have n1_:=A0_.mk (bsp (by repeat (first|(with_reducible first|exact HB.out|apply bal|apply pdN|apply bdr|refine bst ?_ GE112.out)|exact HB.out)) hb);have n2_:=A0_.mk (hbox);have n3_:=A0_.mk ((by rw [hg];exact (bsz (by repeat (first|(with_reducible first|exact HB.out|apply bal|apply pdN|apply bdr|refine bst ?_ GE112.out)|exact HB.out))):w.heap.size≤gb119));have n4_:=A0_.mk ((by rw [hg];exact (bsz (by repeat (first|(with_reducible first|exact HB.out|apply bal|apply pdN|apply bdr|refine bst ?_ GE112.out)|exact HB.out))):w.heap.size≤gb119));have n5_:=A0_.mk ((by rw [hg];exact Nat.ne_of_lt (blk_lt (g:=gb112) (o:=.cells #[.slice (some ad113) l0_0.length c0_0] 36 (0,0)) (by (with_reducible repeat first|apply bkN|apply bkD|apply bkA);exact BK112.out)):gb112≠gb119));have n6_:=A0_.mk ((by rw [hg];exact Nat.ne_of_gt (blk_lt (g:=gb112) (o:=.cells #[.slice (some ad113) l0_0.length c0_0] 36 (0,0)) (by (with_reducible repeat first|apply bkN|apply bkD|apply bkA);exact BK112.out)):gb119≠gb112));clear BK112;clear HB;have BK112:=n0_;have HB:=n1_;have BK119:=n2_;have GW119:=n3_;have GE119:=n4_;have NB112_119:=n5_;have NB119_112:=n6_;clear n0_ n1_ n2_ n3_ n4_ n5_ n6_;clear hb hbox hg;have hnb49:=NB119_112.out;have hnc49:=NB112_119.out;have hcz50_0:w48.cell? ⟨gb119,0,none⟩=some (.int .i64 0):=(bkC BK119.out 0).trans rfl;have hcz50_1:w48.cell? ⟨gb119,1,none⟩=some (.string (⟨#[]⟩:ByteArray)):=(bkC BK119.out 1).trans rfl;have hcz50_2:w48.cell? ⟨gb119,2,none⟩=some (.int .i64 0):=(bkC BK119.out 2).trans rfl;have hfz50_0:=bkF BK119.out 0;have hfz50_1:=bkF BK119.out 1;have hfz50_2:=bkF BK119.out 2))
                 have n0_:A0_ ((((w48.setCell ⟨gb119,0,none⟩ (.int .i64 ((rT y114 x31_2).f0))).setCell ⟨gb119,1,none⟩ (.string ((rT y114 x31_2).f1))).setCell ⟨gb119,2,none⟩ (.int .i64 ((rT y114 x31_2).f2))).heap[gb112]? = some (.cells #[.slice (some ad113) l0_0.length c0_0] 36 (0,0))):=⟨by (with_reducible repeat first|apply bkN|apply bkD|apply bkA);refine bkf ?_ NB112_119.out _;(with_reducible repeat first|apply bkN|apply bkD|apply bkA);refine bkf ?_ NB112_119.out _;(with_reducible repeat first|apply bkN|apply bkD|apply bkA);refine bkf ?_ NB112_119.out _;(with_reducible repeat first|apply bkN|apply bkD|apply bkA);exact BK112.out⟩;have n1_:A0_ ((((w48.setCell ⟨gb119,0,none⟩ (.int .i64 ((rT y114 x31_2).f0))).setCell ⟨gb119,1,none⟩ (.string ((rT y114 x31_2).f1))).setCell ⟨gb119,2,none⟩ (.int .i64 ((rT y114 x31_2).f2))).heap[gb119]? = some (.cells #[.int .i64 ((rT y114 x31_2).f0),.string ((rT y114 x31_2).f1),.int .i64 ((rT y114 x31_2).f2)] 75 (0,0))):=⟨by (with_reducible repeat first|apply bkN|apply bkD|apply bkA);refine bkP (cs:=#[.int .i64 ((rT y114 x31_2).f0),.string ((rT y114 x31_2).f1),.int .i64 0]) ?_ 2 _ rfl;(with_reducible repeat first|apply bkN|apply bkD|apply bkA);refine bkP (cs:=#[.int .i64 ((rT y114 x31_2).f0),.string (⟨#[]⟩:ByteArray),.int .i64 0]) ?_ 1 _ rfl;(with_reducible repeat first|apply bkN|apply bkD|apply bkA);refine bkP (cs:=#[.int .i64 0,.string (⟨#[]⟩:ByteArray),.int .i64 0]) ?_ 0 _ rfl;(with_reducible repeat first|apply bkN|apply bkD|apply bkA);exact BK119.out⟩;have n2_:A0_ (Below w.heap.size w (((w48.setCell ⟨gb119,0,none⟩ (.int .i64 ((rT y114 x31_2).f0))).setCell ⟨gb119,1,none⟩ (.string ((rT y114 x31_2).f1))).setCell ⟨gb119,2,none⟩ (.int .i64 ((rT y114 x31_2).f2)))):=⟨by repeat (first|(with_reducible first|exact HB.out|apply bal|apply pdN|apply bdr|refine bst ?_ GE112.out|refine bst ?_ GE119.out)|exact HB.out)⟩;(try clear BK112);(try clear BK119);(try clear HB)
                 generalize (((w48.setCell ⟨gb119,0,none⟩ (.int .i64 ((rT y114 x31_2).f0))).setCell ⟨gb119,1,none⟩ (.string ((rT y114 x31_2).f1))).setCell ⟨gb119,2,none⟩ (.int .i64 ((rT y114 x31_2).f2)))=w51 at n0_ n1_ n2_ ⊢
                 have BK112:=n0_;have BK119:=n1_;have HB:=n2_;clear n0_ n1_ n2_;have n0_:=A0_.mk (bkD BK112.out);have n1_:=A0_.mk (bkD BK119.out);have n2_:=A0_.mk (bdr HB.out);clear BK112;clear BK119;clear HB;have BK112:=n0_;have BK119:=n1_;have HB:=n2_;clear n0_ n1_ n2_;have p120:0≤(((rT y114 x31_2).f0):Int):=of_decide_eq_true (by first|(with_reducible assumption)|assumption)
                 have q120:((rT y114 x31_2).f0) < (l0_0.length:Int):=of_decide_eq_true (by first|(with_reducible assumption)|assumption)
                 obtain ⟨ad120,e120,hx120_0,hx120_1,hx120_2⟩:=at_T75 HR0_0.out ((rT y114 x31_2).f0) p120 q120;have hw120_2:=hx120_2;have hw120_1:=hx120_1;have hw120_0:=hx120_0
                 obtain rfl:ad113=ad120:=(by injection e120)
                 replace hx120_0:=(HB.out.cell (World.block_lt_of_cell? w _ hx120_0)).trans hx120_0;replace hx120_1:=(HB.out.cell (World.block_lt_of_cell? w _ hx120_1)).trans hx120_1;replace hx120_2:=(HB.out.cell (World.block_lt_of_cell? w _ hx120_2)).trans hx120_2;replace p120:=eq_true p120;replace q120:=eq_true q120;refine start_ (n:=33) (S:=fun w'=>w'.cell? ⟨gb119,0,none⟩=some (.int .i64 ((rT y114 x31_2).f0))∧w'.cell? ⟨gb119,1,none⟩=some (.string ((rT y114 x31_2).f1))∧w'.cell? ⟨gb119,2,none⟩=some (.int .i64 ((rT y114 x31_2).f2))∧w'.cell? ⟨gb112,0,none⟩=some (.slice (some ad113) l0_0.length c0_0)∧w'.cell? (ad113.add ((((rT y114 x31_2).f0)).toNat * 3))=some (.int .i64 ((rT l0_0 ((rT y114 x31_2).f0)).f0))∧w'.cell? ⟨(ad113.add ((((rT y114 x31_2).f0)).toNat * 3)).block,(ad113.add ((((rT y114 x31_2).f0)).toNat * 3)).off+1,none⟩=some (.string ((rT l0_0 ((rT y114 x31_2).f0)).f1))∧w'.cell? ⟨(ad113.add ((((rT y114 x31_2).f0)).toNat * 3)).block,(ad113.add ((((rT y114 x31_2).f0)).toNat * 3)).off+2,none⟩=some (.int .i64 ((rT l0_0 ((rT y114 x31_2).f0)).f2))) (ds:=[]) #[n_,n_,n_,n_,n_,n_,n_,n_,n_,n_,n_,n_,n_,n_,n_,n_,n_,n_,n_,n_,n_,n_,n_,n_,n_,n_,n_,n_,n_,n_,n_,n_,n_] (by kernel_rfl) rfl rfl ⟨(bkC BK119.out 0).trans rfl,(bkC BK119.out 1).trans rfl,(bkC BK119.out 2).trans rfl,(bkC BK112.out 0).trans rfl,((HB.out.cell (World.block_lt_of_cell? w _ hw120_0)).trans hw120_0),((HB.out.cell (World.block_lt_of_cell? w _ hw120_1)).trans hw120_1),((HB.out.cell (World.block_lt_of_cell? w _ hw120_2)).trans hw120_2)⟩ (fun hHeld=>?_);refine with_tabW iFO.tab9 iFO.bits9 (fun HT_ HW_=>?_)
                 generalize w51.drew=w52 at BK112 BK119 HB hx120_0 hx120_1 hx120_2 hHeld ⊢
                 refine pure_ (i:=0) (N:=some 36) (v:=?_) (a':=?_) #[y_,n_,n_,n_,n_,n_,n_,n_,n_,n_,n_,n_,n_,n_,n_,n_,n_,n_,n_,n_,n_,n_,n_,n_,n_,n_,n_,n_,n_,n_,n_,n_,n_] rfl rfl (any_of HT_.out (by kernel_rfl)) (fun _ _ _ h=>h) (Or.inl ⟨by rfl,?_⟩) ?_ ?_;rotate_left
                 ·intro w'
                  go_simp;with_reducible rfl
                 rotate_left
                 ·simp only [Act.put,List.setIfInBounds_toArray,List.set_cons_zero,List.set_cons_succ,i64_w,i32_w]
                  rfl
                 refine take_ (i:=1) (N:=some 37) (v:=?_) (a':=?_) #[y_,y_,n_,n_,n_,n_,n_,n_,n_,n_,n_,n_,n_,n_,n_,n_,n_,n_,n_,n_,n_,n_,n_,n_,n_,n_,n_,n_,n_,n_,n_,n_,n_] rfl rfl (take_ofW HT_.out HW_.out (by kernel_rfl)) (fun _ _ _ h=>h) (Or.inl ⟨by rfl,?_⟩) hHeld ?_ ?_;rotate_left
                 ·rintro w' ⟨s0,s1,s2,s3,s4,s5,s6⟩
                  go_simp;with_reducible rfl
                 rotate_left
                 ·simp only [Act.put,List.setIfInBounds_toArray,List.set_cons_zero,List.set_cons_succ,i64_w,i32_w]
                  rfl
                 refine pure_ (i:=2) (N:=some 38) (v:=?_) (a':=?_) #[y_,y_,y_,n_,n_,n_,n_,n_,n_,n_,n_,n_,n_,n_,n_,n_,n_,n_,n_,n_,n_,n_,n_,n_,n_,n_,n_,n_,n_,n_,n_,n_,n_] rfl rfl (any_of HT_.out (by kernel_rfl)) (fun _ _ _ h=>h) (Or.inl ⟨by rfl,?_⟩) ?_ ?_;rotate_left
                 ·intro w'
                  go_simp;with_reducible rfl
                 rotate_left
                 ·simp only [Act.put,List.setIfInBounds_toArray,List.set_cons_zero,List.set_cons_succ,i64_w,i32_w]
                  rfl
                 refine pure_ (i:=3) (N:=some 39) (v:=?_) (a':=?_) #[y_,y_,y_,y_,n_,n_,n_,n_,n_,n_,n_,n_,n_,n_,n_,n_,n_,n_,n_,n_,n_,n_,n_,n_,n_,n_,n_,n_,n_,n_,n_,n_,n_] rfl rfl (any_of HT_.out (by kernel_rfl)) (fun _ _ _ h=>h) (Or.inl ⟨by rfl,?_⟩) ?_ ?_;rotate_left
                 ·intro w'
                  go_simp;with_reducible rfl
                 rotate_left
                 ·simp only [Act.put,List.setIfInBounds_toArray,List.set_cons_zero,List.set_cons_succ,i64_w,i32_w]
                  rfl
                 refine pure_ (i:=4) (N:=some 40) (v:=?_) (a':=?_) #[y_,y_,y_,y_,y_,n_,n_,n_,n_,n_,n_,n_,n_,n_,n_,n_,n_,n_,n_,n_,n_,n_,n_,n_,n_,n_,n_,n_,n_,n_,n_,n_,n_] rfl rfl (any_of HT_.out (by kernel_rfl)) (fun _ _ _ h=>h) (Or.inl ⟨by rfl,?_⟩) ?_ ?_;rotate_left
                 ·intro w'
                  go_simp;with_reducible rfl
                 rotate_left
                 ·simp only [Act.put,List.setIfInBounds_toArray,List.set_cons_zero,List.set_cons_succ,i64_w,i32_w]
                  rfl
                 refine pure_ (i:=6) (N:=some 42) (v:=?_) (a':=?_) #[y_,y_,y_,y_,y_,n_,y_,n_,n_,n_,n_,n_,n_,n_,n_,n_,n_,n_,n_,n_,n_,n_,n_,n_,n_,n_,n_,n_,n_,n_,n_,n_,n_] rfl rfl (any_of HT_.out (by kernel_rfl)) (fun _ _ _ h=>h) (Or.inl ⟨by rfl,?_⟩) ?_ ?_;rotate_left
                 ·intro w'
                  go_simp;with_reducible rfl
                 rotate_left
                 ·simp only [Act.put,List.setIfInBounds_toArray,List.set_cons_zero,List.set_cons_succ,i64_w,i32_w]
                  rfl
                 refine take_ (i:=5) (N:=some 41) (v:=?_) (a':=?_) #[y_,y_,y_,y_,y_,y_,y_,n_,n_,n_,n_,n_,n_,n_,n_,n_,n_,n_,n_,n_,n_,n_,n_,n_,n_,n_,n_,n_,n_,n_,n_,n_,n_] rfl rfl (take_ofW HT_.out HW_.out (by kernel_rfl)) (fun _ _ _ h=>h) (Or.inl ⟨by rfl,?_⟩) hHeld ?_ ?_;rotate_left
                 ·rintro w' ⟨s0,s1,s2,s3,s4,s5,s6⟩
                  go_simp;with_reducible rfl
                 rotate_left
                 ·simp only [Act.put,List.setIfInBounds_toArray,List.set_cons_zero,List.set_cons_succ,i64_w,i32_w]
                  rfl
                 refine pure_ (i:=7) (N:=some 43) (v:=?_) (a':=?_) #[y_,y_,y_,y_,y_,y_,y_,y_,n_,n_,n_,n_,n_,n_,n_,n_,n_,n_,n_,n_,n_,n_,n_,n_,n_,n_,n_,n_,n_,n_,n_,n_,n_] rfl rfl (any_of HT_.out (by kernel_rfl)) (fun _ _ _ h=>h) (Or.inl ⟨by rfl,?_⟩) ?_ ?_;rotate_left
                 ·intro w'
                  go_simp;with_reducible rfl
                 rotate_left
                 ·simp only [Act.put,List.setIfInBounds_toArray,List.set_cons_zero,List.set_cons_succ,i64_w,i32_w]
                  rfl
                 refine pure_ (i:=8) (N:=some 44) (v:=?_) (a':=?_) #[y_,y_,y_,y_,y_,y_,y_,y_,y_,n_,n_,n_,n_,n_,n_,n_,n_,n_,n_,n_,n_,n_,n_,n_,n_,n_,n_,n_,n_,n_,n_,n_,n_] rfl rfl (any_of HT_.out (by kernel_rfl)) (fun _ _ _ h=>h) (Or.inl ⟨by rfl,?_⟩) ?_ ?_;rotate_left
                 ·intro w'
                  go_simp;with_reducible rfl
                 rotate_left
                 ·simp only [Act.put,List.setIfInBounds_toArray,List.set_cons_zero,List.set_cons_succ,i64_w,i32_w]
                  rfl
                 refine pure_ (i:=9) (N:=some 45) (v:=?_) (a':=?_) #[y_,y_,y_,y_,y_,y_,y_,y_,y_,y_,n_,n_,n_,n_,n_,n_,n_,n_,n_,n_,n_,n_,n_,n_,n_,n_,n_,n_,n_,n_,n_,n_,n_] rfl rfl (any_of HT_.out (by kernel_rfl)) (fun _ _ _ h=>h) (Or.inl ⟨by rfl,?_⟩) ?_ ?_;rotate_left
                 ·intro w'
                  go_simp;with_reducible rfl
                 rotate_left
                 ·simp only [Act.put,List.setIfInBounds_toArray,List.set_cons_zero,List.set_cons_succ,i64_w,i32_w]
                  rfl
                 refine pure_ (i:=10) (N:=some 46) (v:=?_) (a':=?_) #[y_,y_,y_,y_,y_,y_,y_,y_,y_,y_,y_,n_,n_,n_,n_,n_,n_,n_,n_,n_,n_,n_,n_,n_,n_,n_,n_,n_,n_,n_,n_,n_,n_] rfl rfl (any_of HT_.out (by kernel_rfl)) (fun _ _ _ h=>h) (Or.inl ⟨by rfl,?_⟩) ?_ ?_;rotate_left
                 ·intro w'
                  go_simp;with_reducible rfl
                 rotate_left
                 ·simp only [Act.put,List.setIfInBounds_toArray,List.set_cons_zero,List.set_cons_succ,i64_w,i32_w]
                  rfl
                 refine pure_ (i:=12) (N:=some 48) (v:=?_) (a':=?_) #[y_,y_,y_,y_,y_,y_,y_,y_,y_,y_,y_,n_,y_,n_,n_,n_,n_,n_,n_,n_,n_,n_,n_,n_,n_,n_,n_,n_,n_,n_,n_,n_,n_] rfl rfl (any_of HT_.out (by kernel_rfl)) (fun _ _ _ h=>h) (Or.inl ⟨by rfl,?_⟩) ?_ ?_;rotate_left
                 ·intro w'
                  go_simp;with_reducible rfl
                 rotate_left
                 ·simp only [Act.put,List.setIfInBounds_toArray,List.set_cons_zero,List.set_cons_succ,i64_w,i32_w]
                  rfl
                 refine pure_ (i:=14) (N:=some 50) (v:=?_) (a':=?_) #[y_,y_,y_,y_,y_,y_,y_,y_,y_,y_,y_,n_,y_,n_,y_,n_,n_,n_,n_,n_,n_,n_,n_,n_,n_,n_,n_,n_,n_,n_,n_,n_,n_] rfl rfl (any_of HT_.out (by kernel_rfl)) (fun _ _ _ h=>h) (Or.inl ⟨by rfl,?_⟩) ?_ ?_;rotate_left
                 ·intro w'
                  go_simp;with_reducible rfl
                 rotate_left
                 ·simp only [Act.put,List.setIfInBounds_toArray,List.set_cons_zero,List.set_cons_succ,i64_w,i32_w]
                  rfl
                 refine take_ (i:=11) (N:=some 47) (v:=?_) (a':=?_) #[y_,y_,y_,y_,y_,y_,y_,y_,y_,y_,y_,y_,y_,n_,y_,n_,n_,n_,n_,n_,n_,n_,n_,n_,n_,n_,n_,n_,n_,n_,n_,n_,n_] rfl rfl (take_ofW HT_.out HW_.out (by kernel_rfl)) (fun _ _ _ h=>h) (Or.inl ⟨by rfl,?_⟩) hHeld ?_ ?_;rotate_left
                 ·rintro w' ⟨s0,s1,s2,s3,s4,s5,s6⟩
                  go_simp;with_reducible rfl
                 rotate_left
                 ·simp only [Act.put,List.setIfInBounds_toArray,List.set_cons_zero,List.set_cons_succ,i64_w,i32_w]
                  rfl
                 refine take_ (i:=13) (N:=some 49) (v:=?_) (a':=?_) #[y_,y_,y_,y_,y_,y_,y_,y_,y_,y_,y_,y_,y_,y_,y_,n_,n_,n_,n_,n_,n_,n_,n_,n_,n_,n_,n_,n_,n_,n_,n_,n_,n_] rfl rfl (take_ofW HT_.out HW_.out (by kernel_rfl)) (fun _ _ _ h=>h) (Or.inl ⟨by rfl,?_⟩) hHeld ?_ ?_;rotate_left
                 ·rintro w' ⟨s0,s1,s2,s3,s4,s5,s6⟩
                  go_simp;with_reducible rfl
                 rotate_left
                 ·simp only [Act.put,List.setIfInBounds_toArray,List.set_cons_zero,List.set_cons_succ,i64_w,i32_w]
                  rfl
                 refine take_ (i:=15) (N:=some 51) (v:=?_) (a':=?_) #[y_,y_,y_,y_,y_,y_,y_,y_,y_,y_,y_,y_,y_,y_,y_,y_,n_,n_,n_,n_,n_,n_,n_,n_,n_,n_,n_,n_,n_,n_,n_,n_,n_] rfl rfl (take_ofW HT_.out HW_.out (by kernel_rfl)) (fun _ _ _ h=>h) (Or.inl ⟨by rfl,?_⟩) hHeld ?_ ?_;rotate_left
                 ·rintro w' ⟨s0,s1,s2,s3,s4,s5,s6⟩
                  go_simp;with_reducible rfl
                 rotate_left
                 ·simp only [Act.put,List.setIfInBounds_toArray,List.set_cons_zero,List.set_cons_succ,i64_w,i32_w]
                  rfl
                 refine pure_ (i:=16) (N:=some 52) (v:=?_) (a':=?_) #[y_,y_,y_,y_,y_,y_,y_,y_,y_,y_,y_,y_,y_,y_,y_,y_,y_,n_,n_,n_,n_,n_,n_,n_,n_,n_,n_,n_,n_,n_,n_,n_,n_] rfl rfl (any_of HT_.out (by kernel_rfl)) (fun _ _ _ h=>h) (Or.inl ⟨by rfl,?_⟩) ?_ ?_;rotate_left
                 ·intro w'
                  go_simp;with_reducible rfl
                 rotate_left
                 ·simp only [Act.put,List.setIfInBounds_toArray,List.set_cons_zero,List.set_cons_succ,i64_w,i32_w]
                  rfl
                 refine pure_ (i:=17) (N:=some 53) (v:=?_) (a':=?_) #[y_,y_,y_,y_,y_,y_,y_,y_,y_,y_,y_,y_,y_,y_,y_,y_,y_,y_,n_,n_,n_,n_,n_,n_,n_,n_,n_,n_,n_,n_,n_,n_,n_] rfl rfl (any_of HT_.out (by kernel_rfl)) (fun _ _ _ h=>h) (Or.inl ⟨by rfl,?_⟩) ?_ ?_;rotate_left
                 ·intro w'
                  go_simp;with_reducible rfl
                 rotate_left
                 ·simp only [Act.put,List.setIfInBounds_toArray,List.set_cons_zero,List.set_cons_succ,i64_w,i32_w]
                  rfl
                 refine take_ (i:=18) (N:=some 54) (v:=?_) (a':=?_) #[y_,y_,y_,y_,y_,y_,y_,y_,y_,y_,y_,y_,y_,y_,y_,y_,y_,y_,y_,n_,n_,n_,n_,n_,n_,n_,n_,n_,n_,n_,n_,n_,n_] rfl rfl (take_ofW HT_.out HW_.out (by kernel_rfl)) (fun _ _ _ h=>h) (Or.inl ⟨by rfl,?_⟩) hHeld ?_ ?_;rotate_left
                 ·rintro w' ⟨s0,s1,s2,s3,s4,s5,s6⟩
                  go_simp;with_reducible rfl
                 rotate_left
                 ·simp only [Act.put,List.setIfInBounds_toArray,List.set_cons_zero,List.set_cons_succ,i64_w,i32_w]
                  rfl
                 refine pure_ (i:=19) (N:=some 55) (v:=?_) (a':=?_) #[y_,y_,y_,y_,y_,y_,y_,y_,y_,y_,y_,y_,y_,y_,y_,y_,y_,y_,y_,y_,n_,n_,n_,n_,n_,n_,n_,n_,n_,n_,n_,n_,n_] rfl rfl (any_of HT_.out (by kernel_rfl)) (fun _ _ _ h=>h) (Or.inl ⟨by rfl,?_⟩) ?_ ?_;rotate_left
                 ·intro w'
                  go_simp;with_reducible rfl
                 rotate_left
                 ·simp only [Act.put,List.setIfInBounds_toArray,List.set_cons_zero,List.set_cons_succ,i64_w,i32_w]
                  rfl
                 refine pure_ (i:=20) (N:=some 56) (v:=?_) (a':=?_) #[y_,y_,y_,y_,y_,y_,y_,y_,y_,y_,y_,y_,y_,y_,y_,y_,y_,y_,y_,y_,y_,n_,n_,n_,n_,n_,n_,n_,n_,n_,n_,n_,n_] rfl rfl (any_of HT_.out (by kernel_rfl)) (fun _ _ _ h=>h) (Or.inl ⟨by rfl,?_⟩) ?_ ?_;rotate_left
                 ·intro w'
                  go_simp;with_reducible rfl
                 rotate_left
                 ·simp only [Act.put,List.setIfInBounds_toArray,List.set_cons_zero,List.set_cons_succ,i64_w,i32_w]
                  rfl
                 refine pure_ (i:=21) (N:=some 57) (v:=?_) (a':=?_) #[y_,y_,y_,y_,y_,y_,y_,y_,y_,y_,y_,y_,y_,y_,y_,y_,y_,y_,y_,y_,y_,y_,n_,n_,n_,n_,n_,n_,n_,n_,n_,n_,n_] rfl rfl (any_of HT_.out (by kernel_rfl)) (fun _ _ _ h=>h) (Or.inl ⟨by rfl,?_⟩) ?_ ?_;rotate_left
                 ·intro w'
                  go_simp;with_reducible rfl
                 rotate_left
                 ·simp only [Act.put,List.setIfInBounds_toArray,List.set_cons_zero,List.set_cons_succ,i64_w,i32_w]
                  rfl
                 refine pure_ (i:=22) (N:=some 58) (v:=?_) (a':=?_) #[y_,y_,y_,y_,y_,y_,y_,y_,y_,y_,y_,y_,y_,y_,y_,y_,y_,y_,y_,y_,y_,y_,y_,n_,n_,n_,n_,n_,n_,n_,n_,n_,n_] rfl rfl (any_of HT_.out (by kernel_rfl)) (fun _ _ _ h=>h) (Or.inl ⟨by rfl,?_⟩) ?_ ?_;rotate_left
                 ·intro w'
                  go_simp;with_reducible rfl
                 rotate_left
                 ·simp only [Act.put,List.setIfInBounds_toArray,List.set_cons_zero,List.set_cons_succ,i64_w,i32_w]
                  rfl
                 refine pure_ (i:=23) (N:=some 59) (v:=undef) (a':=?_) #[y_,y_,y_,y_,y_,y_,y_,y_,y_,y_,y_,y_,y_,y_,y_,y_,y_,y_,y_,y_,y_,y_,y_,y_,n_,n_,n_,n_,n_,n_,n_,n_,n_] rfl rfl (any_of HT_.out (by kernel_rfl)) (fun _ _ _ h=>h) (Or.inr ⟨by rfl,rfl⟩) ?_ ?_;rotate_left
                 ·simp only [Act.put,List.setIfInBounds_toArray,List.set_cons_zero,List.set_cons_succ,i64_w,i32_w]
                  rfl
                 refine pure_ (i:=24) (N:=some 60) (v:=undef) (a':=?_) #[y_,y_,y_,y_,y_,y_,y_,y_,y_,y_,y_,y_,y_,y_,y_,y_,y_,y_,y_,y_,y_,y_,y_,y_,y_,n_,n_,n_,n_,n_,n_,n_,n_] rfl rfl (any_of HT_.out (by kernel_rfl)) (fun _ _ _ h=>h) (Or.inr ⟨by rfl,rfl⟩) ?_ ?_;rotate_left
                 ·simp only [Act.put,List.setIfInBounds_toArray,List.set_cons_zero,List.set_cons_succ,i64_w,i32_w]
                  rfl
                 refine pure_ (i:=25) (N:=some 61) (v:=undef) (a':=?_) #[y_,y_,y_,y_,y_,y_,y_,y_,y_,y_,y_,y_,y_,y_,y_,y_,y_,y_,y_,y_,y_,y_,y_,y_,y_,y_,n_,n_,n_,n_,n_,n_,n_] rfl rfl (any_of HT_.out (by kernel_rfl)) (fun _ _ _ h=>h) (Or.inr ⟨by rfl,rfl⟩) ?_ ?_;rotate_left
                 ·simp only [Act.put,List.setIfInBounds_toArray,List.set_cons_zero,List.set_cons_succ,i64_w,i32_w]
                  rfl
                 refine pure_ (i:=26) (N:=some 62) (v:=?_) (a':=?_) #[y_,y_,y_,y_,y_,y_,y_,y_,y_,y_,y_,y_,y_,y_,y_,y_,y_,y_,y_,y_,y_,y_,y_,y_,y_,y_,y_,n_,n_,n_,n_,n_,n_] rfl rfl (any_of HT_.out (by kernel_rfl)) (fun _ _ _ h=>h) (Or.inl ⟨by rfl,?_⟩) ?_ ?_;rotate_left
                 ·intro w'
                  go_simp;with_reducible rfl
                 rotate_left
                 ·simp only [Act.put,List.setIfInBounds_toArray,List.set_cons_zero,List.set_cons_succ,i64_w,i32_w]
                  rfl
                 refine pure_ (i:=27) (N:=some 63) (v:=?_) (a':=?_) #[y_,y_,y_,y_,y_,y_,y_,y_,y_,y_,y_,y_,y_,y_,y_,y_,y_,y_,y_,y_,y_,y_,y_,y_,y_,y_,y_,y_,n_,n_,n_,n_,n_] rfl rfl (any_of HT_.out (by kernel_rfl)) (fun _ _ _ h=>h) (Or.inl ⟨by rfl,?_⟩) ?_ ?_;rotate_left
                 ·intro w'
                  go_simp;with_reducible rfl
                 rotate_left
                 ·simp only [Act.put,List.setIfInBounds_toArray,List.set_cons_zero,List.set_cons_succ,i64_w,i32_w]
                  rfl
                 refine pure_ (i:=28) (N:=some 64) (v:=undef) (a':=?_) #[y_,y_,y_,y_,y_,y_,y_,y_,y_,y_,y_,y_,y_,y_,y_,y_,y_,y_,y_,y_,y_,y_,y_,y_,y_,y_,y_,y_,y_,n_,n_,n_,n_] rfl rfl (any_of HT_.out (by kernel_rfl)) (fun _ _ _ h=>h) (Or.inr ⟨by rfl,rfl⟩) ?_ ?_;rotate_left
                 ·simp only [Act.put,List.setIfInBounds_toArray,List.set_cons_zero,List.set_cons_succ,i64_w,i32_w]
                  rfl
                 refine pure_ (i:=29) (N:=some 65) (v:=undef) (a':=?_) #[y_,y_,y_,y_,y_,y_,y_,y_,y_,y_,y_,y_,y_,y_,y_,y_,y_,y_,y_,y_,y_,y_,y_,y_,y_,y_,y_,y_,y_,y_,n_,n_,n_] rfl rfl (any_of HT_.out (by kernel_rfl)) (fun _ _ _ h=>h) (Or.inr ⟨by rfl,rfl⟩) ?_ ?_;rotate_left
                 ·simp only [Act.put,List.setIfInBounds_toArray,List.set_cons_zero,List.set_cons_succ,i64_w,i32_w]
                  rfl
                 refine pure_ (i:=30) (N:=some 66) (v:=undef) (a':=?_) #[y_,y_,y_,y_,y_,y_,y_,y_,y_,y_,y_,y_,y_,y_,y_,y_,y_,y_,y_,y_,y_,y_,y_,y_,y_,y_,y_,y_,y_,y_,y_,n_,n_] rfl rfl (any_of HT_.out (by kernel_rfl)) (fun _ _ _ h=>h) (Or.inr ⟨by rfl,rfl⟩) ?_ ?_;rotate_left
                 ·simp only [Act.put,List.setIfInBounds_toArray,List.set_cons_zero,List.set_cons_succ,i64_w,i32_w]
                  rfl
                 refine pure_ (i:=31) (N:=some 67) (v:=undef) (a':=?_) #[y_,y_,y_,y_,y_,y_,y_,y_,y_,y_,y_,y_,y_,y_,y_,y_,y_,y_,y_,y_,y_,y_,y_,y_,y_,y_,y_,y_,y_,y_,y_,y_,n_] rfl rfl (any_of HT_.out (by kernel_rfl)) (fun _ _ _ h=>h) (Or.inr ⟨by rfl,rfl⟩) ?_ ?_;rotate_left
                 ·simp only [Act.put,List.setIfInBounds_toArray,List.set_cons_zero,List.set_cons_succ,i64_w,i32_w]
                  rfl
                 refine pure_ (i:=32) (N:=some 68) (v:=?_) (a':=?_) #[y_,y_,y_,y_,y_,y_,y_,y_,y_,y_,y_,y_,y_,y_,y_,y_,y_,y_,y_,y_,y_,y_,y_,y_,y_,y_,y_,y_,y_,y_,y_,y_,y_] rfl rfl (any_of HT_.out (by kernel_rfl)) (fun _ _ _ h=>h) (Or.inl ⟨by rfl,?_⟩) ?_ ?_;rotate_left
                 ·intro w'
                  go_simp;with_reducible rfl
                 rotate_left
                 ·simp only [Act.put,List.setIfInBounds_toArray,List.set_cons_zero,List.set_cons_succ,i64_w,i32_w]
                  rfl
                 refine done_ (done_of HT_.out (by kernel_rfl)) ?_
                 try go_wp2
                 go_ret;exact ⟨by first|rfl|(simp [errW_none,errW_some] <;> rfl)|(simp [*,errW_none,errW_some] <;> rfl),by repeat (first|(with_reducible first|exact HB.out|apply bal|apply pdN|apply bdr|refine bst ?_ GE112.out|refine bst ?_ GE119.out)|exact HB.out)⟩
               ·rw [if_neg c29] at H
                exact absurd H (by simp)
              ·rw [if_neg c28] at H
               exact absurd H (by simp)
           ·rw [if_neg c15] at H
            exact absurd H (by simp)
          ·rw [if_neg c14] at H
           exact absurd H (by simp)
         ·rw [if_neg c13] at H
          have c13b0:decide (x31_2 < (y114.length:Int))=false:=decide_eq_false c13;clear c13
          have H':=A0_.mk H
          clear H;have hcz53_0:wr.cell? ⟨gb112,0,none⟩=some (.slice (some ad113) l0_0.length c0_0):=(bkC BK112.out 0).trans rfl
          have hfz53_0:=bkF BK112.out 0
          go_wp2_with (first|((with_reducible refine gtD (N:=70) rfl ?_);refine SetMap.wpList_make_set _ rfl rfl ?_;intro gbM wM hset hb hgM;have n0_:=A0_.mk (bkB BK112.out hb);have n1_:=A0_.mk (bsp HB.out hb);have n2_:=A0_.mk hset;have n3_:=A0_.mk (by rw [hgM];exact Nat.ne_of_lt (blk_lt BK112.out):gb112≠gbM);have n4_:=A0_.mk (by rw [hgM];exact bsz HB.out:w.heap.size≤gbM);clear BK112 HB;have BK112:=n0_;have HB:=n1_;have HS:=n2_;have NBM:=n3_;have GEM:=n4_;clear n0_ n1_ n2_ n3_ n4_ hset hb hgM;have hczM_0:wM.cell? ⟨gb112,0,none⟩=some (.slice (some ad113) l0_0.length c0_0):=(bkC BK112.out 0).trans rfl))
          have H:=H'.out
          by_cases cfit:SetMap.keysFit (l0_0.map fun y=>(y.f0,y.f1))=true
          ·rw [if_pos cfit] at H
           have HFIT:=A0_.mk cfit;clear cfit;have HMAX:=A0_.mk HR0_0.out.2.1
           have H':=A0_.mk H
           clear H
           go_loopg [74] (l0_0.length+1) (fun kq v74 w'=>∃ (x74:Int),v74=.int .i64 x74∧A0_ (0≤x74∧x74≤(l0_0.length:Int)∧kq+x74.toNat=l0_0.length+1)∧A0_ (SetMap.dupUpto (l0_0.map fun y=>(y.f0,y.f1)) x74.toNat=false)∧A0_ (SetMap.SetIs w' gbM x74.toNat (SetMap.memUpto (l0_0.map fun y=>(y.f0,y.f1)) x74.toNat))∧A0_ (w'.heap[gb112]? = some (.cells #[(.slice (some ad113) l0_0.length c0_0)] 36 (0,0)))∧A0_ (Below w.heap.size w w'))
           case atStart=>exact ⟨0,(by first|rfl|(simp;done)|(simp [*];done)),⟨by omega⟩,⟨SetMap.dup_zero _⟩,⟨SetMap.SetIs.same HS.out (fun p_ s_=>(SetMap.mem_zero _ _ _).symm)⟩,BK112,HB⟩
           case round=>
            (try clear hczM_0);(try clear hcz53_0)
            (try clear hfz53_0);clear HS BK112 HB
            obtain ⟨x74,rfl,HQ,HD,HS,BK112,HB⟩:=hrel
            cases gk with
            |zero=>exact absurd HQ.out.2.2 (by have:=HQ.out.2.1;have:=HQ.out.1;omega)
            |succ kg=>
             have hcz74_0:wr.cell? ⟨gb112,0,none⟩=some (.slice (some ad113) l0_0.length c0_0):=(bkC BK112.out 0).trans rfl
             have hfz74_0:=bkF BK112.out 0
             by_cases c74:x74 < (l0_0.length:Int)
             ·have c74b0:decide (x74 < (l0_0.length:Int))=true:=decide_eq_true c74
              have q74:=c74;have h74:=HQ.out.1;have HW74:=A0_.mk (SetMap.fit_at HFIT.out x74.toNat (by rw [List.length_map];omega));rw [show (l0_0.map fun y=>(y.f0,y.f1))[x74.toNat]! = ((rT l0_0 x74).f0,(rT l0_0 x74).f1) from by rw [getElem!_pos _ _ (by rw [List.length_map];omega),List.getElem_map];unfold rT;rw [List.getD_eq_getElem?_getD,List.getElem?_eq_getElem (by omega),Option.getD_some]] at HW74;have HN74:=A0_.mk (by have:=HMAX.out;have:=HQ.out.2.1;unfold maxLen;omega:x74.toNat < maxLen);have HB74:=A0_.mk (by have:=HMAX.out;omega:x74+1≤9223372036854775807);clear c74;obtain ⟨ad74,e74,hx74_0,hx74_1,hx74_2⟩:=at_T75 HR0_0.out x74 h74 q74;cases e74;replace hx74_0:=(HB.out.cell (World.block_lt_of_cell? w _ hx74_0)).trans hx74_0;replace hx74_1:=(HB.out.cell (World.block_lt_of_cell? w _ hx74_1)).trans hx74_1;replace hx74_2:=(HB.out.cell (World.block_lt_of_cell? w _ hx74_2)).trans hx74_2;replace h74:=eq_true h74;replace q74:=eq_true q74
              by_cases cm:(SetMap.memUpto (l0_0.map fun y=>(y.f0,y.f1)) x74.toNat) ((rT l0_0 x74).f0) ((rT l0_0 x74).f1).data.toList=true
              ·have HM74:=A0_.mk cm
               clear cm;have H:=H'.out;rw [if_pos (SetMap.dup_of_mem _ x74.toNat (by rw [List.length_map];have:=of_decide_eq_true c74b0;have:=HQ.out.1;omega) (by rw [show (l0_0.map fun y=>(y.f0,y.f1))[x74.toNat]! = ((rT l0_0 x74).f0,(rT l0_0 x74).f1) from by rw [getElem!_pos _ _ (by rw [List.length_map];have:=of_decide_eq_true c74b0;have:=HQ.out.1;omega),List.getElem_map];unfold rT;rw [List.getD_eq_getElem?_getD,List.getElem?_eq_getElem (by have:=of_decide_eq_true c74b0;have:=HQ.out.1;omega),Option.getD_some]];exact HM74.out))] at H
               obtain rfl:=Option.some.inj H
               go_wp2_with (first|((with_reducible refine gtD (N:=8) rfl ?_);refine bxE ?hg (N:=8) ?hd (cs:=#[.int .i64 0,.string (⟨#[]⟩:ByteArray),.int .i64 0]) (t:=75) ?hr ?_;(case hd=>rfl);(case hg=>rfl);(case hr=>first|(go_simp;done)|(go_simp;rfl));intro gb8 hg w80 hbox hb;have n0_:=A0_.mk (bkB BK112.out hb);have n1_:=A0_.mk (bsp HB.out hb);have n2_:=A0_.mk (SetMap.SetIs.step HS.out (hb.block gbM (SetMap.SetIs.lt HS.out)));have n3_:=A0_.mk hbox;have n4_:=A0_.mk (by rw [hg];exact Nat.ne_of_lt (blk_lt BK112.out):gb112≠gb8);have n5_:=A0_.mk (by rw [hg];exact Nat.ne_of_lt (SetMap.SetIs.lt HS.out):gbM≠gb8);have n6_:=A0_.mk (by rw [hg];exact bsz HB.out:w.heap.size≤gb8);clear BK112 HB HS;have BK112:=n0_;have HB:=n1_;have HS:=n2_;have BKgb8:=n3_;have NBgb8:=n4_;have NMgb8:=n5_;have GEgb8:=n6_;clear n0_ n1_ n2_ n3_ n4_ n5_ n6_;clear hb hbox hg;have zgb8_0:w80.cell? ⟨gb8,0,none⟩=some (.int .i64 0):=(bkC BKgb8.out 0).trans rfl;have zgb8_1:w80.cell? ⟨gb8,1,none⟩=some (.string (⟨#[]⟩:ByteArray)):=(bkC BKgb8.out 1).trans rfl;have zgb8_2:w80.cell? ⟨gb8,2,none⟩=some (.int .i64 0):=(bkC BKgb8.out 2).trans rfl;have fgb8_0:=bkF BKgb8.out 0;have fgb8_1:=bkF BKgb8.out 1;have fgb8_2:=bkF BKgb8.out 2)|((with_reducible refine gtD (N:=9) rfl ?_);refine bxE ?hg (N:=9) ?hd (cs:=#[.int .i64 0,.string (⟨#[]⟩:ByteArray)]) (t:=84) ?hr ?_;(case hd=>rfl);(case hg=>rfl);(case hr=>first|(go_simp;done)|(go_simp;rfl));intro gb9 hg w81 hbox hb;have n0_:=A0_.mk (bkB (bkf (bkf (bkf BK112.out NBgb8.out _) NBgb8.out _) NBgb8.out _) hb);have n1_:=A0_.mk (bsp (bst (bst (bst HB.out GEgb8.out) GEgb8.out) GEgb8.out) hb);have n2_:=A0_.mk (SetMap.SetIs.step (((HS.out.step (Below.heap_setCell _ _ _ _ NMgb8.out)).step (Below.heap_setCell _ _ _ _ NMgb8.out)).step (Below.heap_setCell _ _ _ _ NMgb8.out)) (hb.block gbM (SetMap.SetIs.lt (((HS.out.step (Below.heap_setCell _ _ _ _ NMgb8.out)).step (Below.heap_setCell _ _ _ _ NMgb8.out)).step (Below.heap_setCell _ _ _ _ NMgb8.out)))));have n3_:=A0_.mk hbox;have n4_:=A0_.mk (by rw [hg];exact Nat.ne_of_lt (blk_lt (bkf (bkf (bkf BK112.out NBgb8.out _) NBgb8.out _) NBgb8.out _)):gb112≠gb9);have n5_:=A0_.mk (by rw [hg];exact Nat.ne_of_lt (SetMap.SetIs.lt (((HS.out.step (Below.heap_setCell _ _ _ _ NMgb8.out)).step (Below.heap_setCell _ _ _ _ NMgb8.out)).step (Below.heap_setCell _ _ _ _ NMgb8.out))):gbM≠gb9);have n6_:=A0_.mk (by rw [hg];exact bsz (bst (bst (bst HB.out GEgb8.out) GEgb8.out) GEgb8.out):w.heap.size≤gb9);clear BK112 HB HS;have BK112:=n0_;have HB:=n1_;have HS:=n2_;have BKgb9:=n3_;have NBgb9:=n4_;have NMgb9:=n5_;have GEgb9:=n6_;clear n0_ n1_ n2_ n3_ n4_ n5_ n6_;clear hb hbox hg;have zgb9_0:w81.cell? ⟨gb9,0,none⟩=some (.int .i64 0):=(bkC BKgb9.out 0).trans rfl;have zgb9_1:w81.cell? ⟨gb9,1,none⟩=some (.string (⟨#[]⟩:ByteArray)):=(bkC BKgb9.out 1).trans rfl;have fgb9_0:=bkF BKgb9.out 0;have fgb9_1:=bkF BKgb9.out 1)|((with_reducible refine gtD (N:=85) rfl ?_);refine SetMap.wpList_lookup_set _ rfl _ _ rfl gbM x74.toNat (SetMap.memUpto (l0_0.map fun y=>(y.f0,y.f1)) x74.toNat) rfl ((HS.out.step (Below.heap_setCell _ _ _ _ NMgb9.out)).step (Below.heap_setCell _ _ _ _ NMgb9.out)) ((rT l0_0 x74).f0) ((rT l0_0 x74).f1) rfl HW74.out.1 HW74.out.2 ?_;rw [HM74.out]))
               go_ret;exact ⟨by first|rfl|(simp;done),(bst (bst HB.out GEgb9.out) GEgb9.out)⟩
              ·have HM74:=A0_.mk (show (SetMap.memUpto (l0_0.map fun y=>(y.f0,y.f1)) x74.toNat) ((rT l0_0 x74).f0) ((rT l0_0 x74).f1).data.toList=false by simpa using cm)
               clear cm;have HST:=A0_.mk (SetMap.upto_step (l0_0.map fun y=>(y.f0,y.f1)) x74.toNat (by rw [List.length_map];have:=of_decide_eq_true c74b0;have:=HQ.out.1;omega) ((rT l0_0 x74).f0) ((rT l0_0 x74).f1) (by rw [getElem!_pos _ _ (by rw [List.length_map];have:=of_decide_eq_true c74b0;have:=HQ.out.1;omega),List.getElem_map];unfold rT;rw [List.getD_eq_getElem?_getD,List.getElem?_eq_getElem (by have:=of_decide_eq_true c74b0;have:=HQ.out.1;omega),Option.getD_some]) HD.out HM74.out)
               go_wp2_with (first|((with_reducible refine gtD (N:=8) rfl ?_);refine bxE ?hg (N:=8) ?hd (cs:=#[.int .i64 0,.string (⟨#[]⟩:ByteArray),.int .i64 0]) (t:=75) ?hr ?_;(case hd=>rfl);(case hg=>rfl);(case hr=>first|(go_simp;done)|(go_simp;rfl));intro gb8 hg w80 hbox hb;have n0_:=A0_.mk (bkB BK112.out hb);have n1_:=A0_.mk (bsp HB.out hb);have n2_:=A0_.mk (SetMap.SetIs.step HS.out (hb.block gbM (SetMap.SetIs.lt HS.out)));have n3_:=A0_.mk hbox;have n4_:=A0_.mk (by rw [hg];exact Nat.ne_of_lt (blk_lt BK112.out):gb112≠gb8);have n5_:=A0_.mk (by rw [hg];exact Nat.ne_of_lt (SetMap.SetIs.lt HS.out):gbM≠gb8);have n6_:=A0_.mk (by rw [hg];exact bsz HB.out:w.heap.size≤gb8);clear BK112 HB HS;have BK112:=n0_;have HB:=n1_;have HS:=n2_;have BKgb8:=n3_;have NBgb8:=n4_;have NMgb8:=n5_;have GEgb8:=n6_;clear n0_ n1_ n2_ n3_ n4_ n5_ n6_;clear hb hbox hg;have zgb8_0:w80.cell? ⟨gb8,0,none⟩=some (.int .i64 0):=(bkC BKgb8.out 0).trans rfl;have zgb8_1:w80.cell? ⟨gb8,1,none⟩=some (.string (⟨#[]⟩:ByteArray)):=(bkC BKgb8.out 1).trans rfl;have zgb8_2:w80.cell? ⟨gb8,2,none⟩=some (.int .i64 0):=(bkC BKgb8.out 2).trans rfl;have fgb8_0:=bkF BKgb8.out 0;have fgb8_1:=bkF BKgb8.out 1;have fgb8_2:=bkF BKgb8.out 2)|((with_reducible refine gtD (N:=9) rfl ?_);refine bxE ?hg (N:=9) ?hd (cs:=#[.int .i64 0,.string (⟨#[]⟩:ByteArray)]) (t:=84) ?hr ?_;(case hd=>rfl);(case hg=>rfl);(case hr=>first|(go_simp;done)|(go_simp;rfl));intro gb9 hg w81 hbox hb;have n0_:=A0_.mk (bkB (bkf (bkf (bkf BK112.out NBgb8.out _) NBgb8.out _) NBgb8.out _) hb);have n1_:=A0_.mk (bsp (bst (bst (bst HB.out GEgb8.out) GEgb8.out) GEgb8.out) hb);have n2_:=A0_.mk (SetMap.SetIs.step (((HS.out.step (Below.heap_setCell _ _ _ _ NMgb8.out)).step (Below.heap_setCell _ _ _ _ NMgb8.out)).step (Below.heap_setCell _ _ _ _ NMgb8.out)) (hb.block gbM (SetMap.SetIs.lt (((HS.out.step (Below.heap_setCell _ _ _ _ NMgb8.out)).step (Below.heap_setCell _ _ _ _ NMgb8.out)).step (Below.heap_setCell _ _ _ _ NMgb8.out)))));have n3_:=A0_.mk hbox;have n4_:=A0_.mk (by rw [hg];exact Nat.ne_of_lt (blk_lt (bkf (bkf (bkf BK112.out NBgb8.out _) NBgb8.out _) NBgb8.out _)):gb112≠gb9);have n5_:=A0_.mk (by rw [hg];exact Nat.ne_of_lt (SetMap.SetIs.lt (((HS.out.step (Below.heap_setCell _ _ _ _ NMgb8.out)).step (Below.heap_setCell _ _ _ _ NMgb8.out)).step (Below.heap_setCell _ _ _ _ NMgb8.out))):gbM≠gb9);have n6_:=A0_.mk (by rw [hg];exact bsz (bst (bst (bst HB.out GEgb8.out) GEgb8.out) GEgb8.out):w.heap.size≤gb9);clear BK112 HB HS;have BK112:=n0_;have HB:=n1_;have HS:=n2_;have BKgb9:=n3_;have NBgb9:=n4_;have NMgb9:=n5_;have GEgb9:=n6_;clear n0_ n1_ n2_ n3_ n4_ n5_ n6_;clear hb hbox hg;have zgb9_0:w81.cell? ⟨gb9,0,none⟩=some (.int .i64 0):=(bkC BKgb9.out 0).trans rfl;have zgb9_1:w81.cell? ⟨gb9,1,none⟩=some (.string (⟨#[]⟩:ByteArray)):=(bkC BKgb9.out 1).trans rfl;have fgb9_0:=bkF BKgb9.out 0;have fgb9_1:=bkF BKgb9.out 1)|((with_reducible refine gtD (N:=85) rfl ?_);refine SetMap.wpList_lookup_set _ rfl _ _ rfl gbM x74.toNat (SetMap.memUpto (l0_0.map fun y=>(y.f0,y.f1)) x74.toNat) rfl ((HS.out.step (Below.heap_setCell _ _ _ _ NMgb9.out)).step (Below.heap_setCell _ _ _ _ NMgb9.out)) ((rT l0_0 x74).f0) ((rT l0_0 x74).f1) rfl HW74.out.1 HW74.out.2 ?_;rw [HM74.out])|(at_mapUpdate;refine SetMap.wpList_update_set _ rfl _ _ _ rfl gbM x74.toNat (SetMap.memUpto (l0_0.map fun y=>(y.f0,y.f1)) x74.toNat) rfl ((HS.out.step (Below.heap_setCell _ _ _ _ NMgb9.out)).step (Below.heap_setCell _ _ _ _ NMgb9.out)) HN74.out ((rT l0_0 x74).f0) ((rT l0_0 x74).f1) rfl rfl HW74.out.1 HW74.out.2 ?_;intro w82 hs82 hg82;have n0_:=A0_.mk (blk_grown (bkf (bkf BK112.out NBgb9.out _) NBgb9.out _) hg82 (by intro h_;cases h_;exact NBM.out rfl));have n1_:=A0_.mk (pw_below_grown (bst (bst HB.out GEgb9.out) GEgb9.out) (some gbM) (bsz (bst (bst HB.out GEgb9.out) GEgb9.out)) hg82 (fun k_ hk_=>by cases hk_;exact GEM.out));have n2_:=A0_.mk hs82;clear BK112 HB HS;have BK112:=n0_;have HB:=n1_;have HS:=n2_;clear n0_ n1_ n2_ hs82 hg82))
               go_roundg kg
               case measure=>omega
               case rel=>
                have hb74:=HB74.out;have hq74:=HQ.out;refine ⟨x74+1,(by first|rfl|(rw [IntWalk.wrap64_in (x74+1) ⟨by omega,by omega⟩])|(simp [IntWalk.wrap64_in (x74+1) ⟨by omega,by omega⟩])),⟨by omega,by have:=of_decide_eq_true c74b0;omega,by omega⟩,?_,?_,BK112,HB⟩
                ·rw [show (x74+1).toNat=x74.toNat+1 by omega];exact ⟨HST.out.1⟩
                ·rw [show (x74+1).toNat=x74.toNat+1 by omega];exact ⟨SetMap.SetIs.same HS.out HST.out.2⟩
             ·have c74b0:decide (x74 < (l0_0.length:Int))=false:=decide_eq_false c74
              have H:=H'.out;rw [if_neg (by have hd:=HD.out;rw [show x74.toNat=(l0_0.map fun y=>(y.f0,y.f1)).length by rw [List.length_map];have:=HQ.out.1;have:=HQ.out.2.1;omega] at hd;unfold SetMap.dupB;rw [hd];simp)] at H;clear c74
              have H':=A0_.mk H
              clear H HS;go_wp2
              go_loopg [92] k2 (fun kq v92 w'=>∃ (x92_3:Int),v92=.int .i64 x92_3∧A0_ (iFO.l1 kq (l0_0.length:Int) x92_3 l0_0=some r)∧A0_ (kq≤k2)∧A0_ (w'.heap[gb112]? = some (.cells #[(.slice (some ad113) l0_0.length c0_0)] 36 (0,0)))∧A0_ (Below w.heap.size w w'))
              case atStart=>exact ⟨(0),(by first|rfl|(simp;done)|(simp [*];done)),H',⟨Nat.le_refl _⟩,⟨by (with_reducible repeat first|apply bkN|apply bkD|apply bkA);exact BK112.out⟩,⟨by repeat (first|(with_reducible first|exact HB.out|apply bal|apply pdN|apply bdr|refine bst ?_ GE112.out)|exact HB.out)⟩⟩
              case round=>
               clear H';(try clear c1);(try clear p1);(try clear q1);(try clear hx1);(try clear c2);(try clear p2);(try clear c3);(try clear c4);(try clear p6);(try clear p11);(try clear q11);(try clear hx11);(try clear p12);(try clear q12);(try clear hx12);(try clear c13);(try clear c13b0);(try clear c14);(try clear c15);(try clear c28);(try clear c29);(try clear c30);(try clear c30b0);(try clear c30b1);(try clear c49);(try clear hcz50_0);(try clear hcz50_1);(try clear hcz50_2);(try clear hcz53_0);(try clear hfz50_0);(try clear hfz50_1);(try clear hfz50_2);(try clear hfz53_0);(try clear hx118_0);(try clear hx118_1);(try clear hx118_2);(try clear hx120_0);(try clear hx120_1);(try clear hx120_2);(try clear p118);(try clear p120);(try clear q118);(try clear q120);obtain ⟨x92_3,rfl,HA,HK3,BK112,HB⟩:=hrel
               cases gk with
               |zero=>exact absurd HA.out (by simp [iFO.l1])
               |succ k3=>
                have H:=HA.out;clear HA;simp only [iFO.l1] at H
                by_cases c54:x92_3 < (l0_0.length:Int)
                ·rw [if_pos c54] at H
                 have c54b0:decide (x92_3 < (l0_0.length:Int))=true:=decide_eq_true c54;clear c54;replace H:=Option.bind_eq_some_iff.mp H;obtain ⟨t121,A550,H⟩:=H
                 replace H:((sSort.f t121).bind fun t124=>((sComp.f t124).bind fun t125=>(if 0≤x92_3 then (if x92_3 < (l0_0.length:Int) then (if (t125.length:Int)=((rT l0_0 x92_3).f2) then (iFO.l1 k3 (l0_0.length:Int) (wrap64 (x92_3+1)) l0_0) else (some 5)) else (none)) else (none))))=some r:=H
                 have A55:=A0_.mk A550;clear A550;replace H:=Option.bind_eq_some_iff.mp H;obtain ⟨t124,A560,H⟩:=H
                 replace H:((sComp.f t124).bind fun t125=>(if 0≤x92_3 then (if x92_3 < (l0_0.length:Int) then (if (t125.length:Int)=((rT l0_0 x92_3).f2) then (iFO.l1 k3 (l0_0.length:Int) (wrap64 (x92_3+1)) l0_0) else (some 5)) else (none)) else (none)))=some r:=H
                 have A56:=A0_.mk A560;clear A560;replace H:=Option.bind_eq_some_iff.mp H;obtain ⟨t125,A570,H⟩:=H
                 replace H:(if 0≤x92_3 then (if x92_3 < (l0_0.length:Int) then (if (t125.length:Int)=((rT l0_0 x92_3).f2) then (iFO.l1 k3 (l0_0.length:Int) (wrap64 (x92_3+1)) l0_0) else (some 5)) else (none)) else (none))=some r:=H
                 have A57:=A0_.mk A570;clear A570
                 by_cases c58:0≤x92_3
                 ·rw [if_pos c58] at H
                  have c58b0:decide (0≤x92_3)=true:=decide_eq_true c58;clear c58
                  by_cases c59:x92_3 < (l0_0.length:Int)
                  ·rw [if_pos c59] at H
                   have c59b0:decide (x92_3 < (l0_0.length:Int))=true:=decide_eq_true c59;clear c59
                   by_cases c60:(t125.length:Int)=((rT l0_0 x92_3).f2)
                   ·rw [if_pos c60] at H
                    have c60b0:((t125.length:Int)==((rT l0_0 x92_3).f2))=true:=beq_iff_eq.mpr c60;have c60b1:((t125.length:Int) != ((rT l0_0 x92_3).f2))=false:=bne_eq_false_iff_eq.mpr c60;clear c60
                    have H':=A0_.mk H
                    clear H;have hcz61_0:wr.cell? ⟨gb112,0,none⟩=some (.slice (some ad113) l0_0.length c0_0):=(bkC BK112.out 0).trans rfl
                    have hfz61_0:=bkF BK112.out 0
                    try go_wp2_with (first|((with_reducible refine gtC (f:=57) rfl ?_);refine goesL_ (some 97) rfl rfl Try.func57 (by kernel_rfl) rfl #[.agg #[.slice (some ad113) l0_0.length c0_0],.int .i64 x92_3] rfl (by (try simp only [List.map_toArray,List.map_cons,List.map_nil]);first|done|rfl|(simp only [List.length_drop,List.length_take];rfl)) ?_;(with_reducible refine (iFf.calls k3 _ _ l0_0 x92_3 t121 _ ?side1 ?side2 A55.out).mono ?_);(case side1=>repeat (first|exact (Kd.C_below HR0_0.out HB.out)|(with_reducible refine Kd.C_alloc ?_ _)|(with_reducible refine Kd.C_drewN ?_ _)|(with_reducible refine Kd.C_drew ?_)));(case side2=>exact HC0_0.out);rintro e w62 ⟨v122,rfl,ho0,hb⟩;refine ⟨_,rfl,?_⟩;have n0_:=A0_.mk (Kd.R_lower ho0 (bsz (by repeat (first|(with_reducible first|exact HB.out|apply bal|apply pdN|apply bdr|refine bst ?_ GE112.out)|exact HB.out))));have n1_:=A0_.mk (bkB (g:=gb112) (o:=.cells #[.slice (some ad113) l0_0.length c0_0] 36 (0,0)) (by (with_reducible repeat first|apply bkN|apply bkD|apply bkA);exact BK112.out) hb);have n2_:=A0_.mk (bsp (by repeat (first|(with_reducible first|exact HB.out|apply bal|apply pdN|apply bdr|refine bst ?_ GE112.out)|exact HB.out)) hb);clear BK112;clear HB;have HO123:=n0_;have BK112:=n1_;have HB:=n2_;clear n0_ n1_ n2_;(try clear hb);(try clear hb2);(try clear hk);(try clear hi);(try clear ho0);obtain ⟨Ao63,co63,eo63⟩:=Kd.R_slice HO123.out;subst eo63)|((with_reducible refine gtC (f:=58) rfl ?_);refine goesL_ (some 99) rfl rfl Try.func58 (by kernel_rfl) rfl #[.slice Ao63 t121.length co63] rfl (by (try simp only [List.map_toArray,List.map_cons,List.map_nil]);first|done|rfl|(simp only [List.length_drop,List.length_take];rfl)) ?_;(with_reducible refine (sSort.calls (fun k_=>some k_=(.slice Ao63 t121.length co63:Value).ownBlock) (.slice Ao63 t121.length co63) t121 t124 w _ ?side1 ?side2 A56.out).mono ?_);(case side1=>repeat (first|(with_reducible first|exact HB.out|apply bal|apply pdN|apply bdr|refine bst ?_ GE112.out)|exact HB.out));(case side2=>exact Kd.R_tight rfl HO123.out);rintro e w64 ⟨rfl,hy0,hb,hkp⟩;refine ⟨_,rfl,?_⟩;have n0_:=A0_.mk (bkK (by (with_reducible repeat first|apply bkN|apply bkD|apply bkA);exact BK112.out) hkp (fun hs_=>(fun e_=>(Kd.R_ne HO123.out BK112.out (by decide)) e_) hs_));have n1_:=A0_.mk (Kd.R_reok rfl hy0 (fun k_ e_=>HO123.out.1 k_ e_));have n2_:=A0_.mk (hb);clear BK112;clear HO123;clear HB;have BK112:=n0_;have HO123:=n1_;have HB:=n2_;clear n0_ n1_ n2_;(try clear hb);(try clear hkp);(try clear hy0)))
                    have n0_:=A0_.mk (Kd.R_drew HO123.out);have n1_:=A0_.mk (bkD BK112.out);have n2_:=A0_.mk (bdr HB.out);clear HO123;clear BK112;clear HB;have HO123:=n0_;have BK112:=n1_;have HB:=n2_;clear n0_ n1_ n2_;have p128:0≤(x92_3:Int):=of_decide_eq_true (by first|(with_reducible assumption)|assumption)
                    have q128:x92_3 < (l0_0.length:Int):=of_decide_eq_true (by first|(with_reducible assumption)|assumption);obtain ⟨ad128,e128,hx128_0,hx128_1,hx128_2⟩:=at_T75 HR0_0.out x92_3 p128 q128;have hw128_2:=hx128_2;have hw128_1:=hx128_1;have hw128_0:=hx128_0
                    obtain rfl:ad113=ad128:=(by injection e128)
                    replace hx128_0:=(HB.out.cell (World.block_lt_of_cell? w _ hx128_0)).trans hx128_0;replace hx128_1:=(HB.out.cell (World.block_lt_of_cell? w _ hx128_1)).trans hx128_1;replace hx128_2:=(HB.out.cell (World.block_lt_of_cell? w _ hx128_2)).trans hx128_2;replace p128:=eq_true p128;replace q128:=eq_true q128;refine start_ (n:=10) (S:=fun w'=>w'.cell? ⟨gb112,0,none⟩=some (.slice (some ad113) l0_0.length c0_0)∧w'.cell? (ad113.add ((x92_3).toNat * 3))=some (.int .i64 ((rT l0_0 x92_3).f0))∧w'.cell? ⟨(ad113.add ((x92_3).toNat * 3)).block,(ad113.add ((x92_3).toNat * 3)).off+1,none⟩=some (.string ((rT l0_0 x92_3).f1))∧w'.cell? ⟨(ad113.add ((x92_3).toNat * 3)).block,(ad113.add ((x92_3).toNat * 3)).off+2,none⟩=some (.int .i64 ((rT l0_0 x92_3).f2))) (ds:=[]) #[n_,n_,n_,n_,n_,n_,n_,n_,n_,n_] (by kernel_rfl) rfl rfl ⟨(bkC BK112.out 0).trans rfl,((HB.out.cell (World.block_lt_of_cell? w _ hw128_0)).trans hw128_0),((HB.out.cell (World.block_lt_of_cell? w _ hw128_1)).trans hw128_1),((HB.out.cell (World.block_lt_of_cell? w _ hw128_2)).trans hw128_2)⟩ (fun hHeld=>?_);refine with_tabW iFO.tab26 iFO.bits26 (fun HT_ HW_=>?_)
                    generalize w64.drew=w65 at HO123 BK112 HB hx128_0 hx128_1 hx128_2 hHeld ⊢
                    refine pure_ (i:=0) (N:=some 100) (v:=?_) (a':=?_) #[y_,n_,n_,n_,n_,n_,n_,n_,n_,n_] rfl rfl (any_of HT_.out (by kernel_rfl)) (fun _ _ _ h=>h) (Or.inl ⟨by rfl,?_⟩) ?_ ?_;rotate_left
                    ·intro w'
                     go_simp;with_reducible rfl
                    rotate_left
                    ·simp only [Act.put,List.setIfInBounds_toArray,List.set_cons_zero,List.set_cons_succ,i64_w,i32_w]
                     rfl
                    refine pure_ (i:=3) (N:=some 103) (v:=?_) (a':=?_) #[y_,n_,n_,y_,n_,n_,n_,n_,n_,n_] rfl rfl (any_of HT_.out (by kernel_rfl)) (fun _ _ _ h=>h) (Or.inl ⟨by rfl,?_⟩) ?_ ?_;rotate_left
                    ·intro w'
                     go_simp;with_reducible rfl
                    rotate_left
                    ·simp only [Act.put,List.setIfInBounds_toArray,List.set_cons_zero,List.set_cons_succ,i64_w,i32_w]
                     rfl
                    refine pure_ (i:=5) (N:=some 105) (v:=?_) (a':=?_) #[y_,n_,n_,y_,n_,y_,n_,n_,n_,n_] rfl rfl (any_of HT_.out (by kernel_rfl)) (fun _ _ _ h=>h) (Or.inl ⟨by rfl,?_⟩) ?_ ?_;rotate_left
                    ·intro w'
                     go_simp;with_reducible rfl
                    rotate_left
                    ·simp only [Act.put,List.setIfInBounds_toArray,List.set_cons_zero,List.set_cons_succ,i64_w,i32_w]
                     rfl
                    refine take_ (i:=4) (N:=some 104) (v:=?_) (a':=?_) #[y_,n_,n_,y_,y_,y_,n_,n_,n_,n_] rfl rfl (take_ofW HT_.out HW_.out (by kernel_rfl)) (fun _ _ _ h=>h) (Or.inl ⟨by rfl,?_⟩) hHeld ?_ ?_;rotate_left
                    ·rintro w' ⟨s0,s1,s2,s3⟩
                     go_simp;with_reducible rfl
                    rotate_left
                    ·simp only [Act.put,List.setIfInBounds_toArray,List.set_cons_zero,List.set_cons_succ,i64_w,i32_w]
                     rfl
                    refine pure_ (i:=6) (N:=some 106) (v:=?_) (a':=?_) #[y_,n_,n_,y_,y_,y_,y_,n_,n_,n_] rfl rfl (any_of HT_.out (by kernel_rfl)) (fun _ _ _ h=>h) (Or.inl ⟨by rfl,?_⟩) ?_ ?_;rotate_left
                    ·intro w'
                     go_simp;with_reducible rfl
                    rotate_left
                    ·simp only [Act.put,List.setIfInBounds_toArray,List.set_cons_zero,List.set_cons_succ,i64_w,i32_w]
                     rfl
                    refine pure_ (i:=7) (N:=some 107) (v:=?_) (a':=?_) #[y_,n_,n_,y_,y_,y_,y_,y_,n_,n_] rfl rfl (any_of HT_.out (by kernel_rfl)) (fun _ _ _ h=>h) (Or.inl ⟨by rfl,?_⟩) ?_ ?_;rotate_left
                    ·intro w'
                     go_simp;with_reducible rfl
                    rotate_left
                    ·simp only [Act.put,List.setIfInBounds_toArray,List.set_cons_zero,List.set_cons_succ,i64_w,i32_w]
                     rfl
                    refine take_ (i:=8) (N:=some 108) (v:=?_) (a':=?_) #[y_,n_,n_,y_,y_,y_,y_,y_,y_,n_] rfl rfl (take_ofW HT_.out HW_.out (by kernel_rfl)) (fun _ _ _ h=>h) (Or.inl ⟨by rfl,?_⟩) hHeld ?_ ?_;rotate_left
                    ·rintro w' ⟨s0,s1,s2,s3⟩
                     go_simp;with_reducible rfl
                    rotate_left
                    ·simp only [Act.put,List.setIfInBounds_toArray,List.set_cons_zero,List.set_cons_succ,i64_w,i32_w]
                     rfl
                    refine one_ (i:=1) (N:=some 101) #[y_,y_,n_,y_,y_,y_,y_,y_,y_,n_] rfl rfl (one_of HT_.out (by kernel_rfl)) (by decide) (fun K hK=>?_);refine goes_ Try.func59 (by kernel_rfl) rfl #[.slice Ao63 t121.length co63] (by rfl) rfl rfl (by (try simp only [List.map_toArray,List.map_cons,List.map_nil]);first|done|rfl|(simp only [List.length_drop,List.length_take];rfl)) ?_
                    with_reducible refine (sComp.calls (fun k_=>some k_=(.slice Ao63 t121.length co63:Value).ownBlock) (.slice Ao63 t121.length co63) t124 t125 w _ ?side1 ?side2 A57.out).mono ?_
                    (case side1=>repeat (first|(with_reducible first|exact HB.out|apply bal|apply pdN|apply bdr|refine bst ?_ GE112.out)|exact HB.out))
                    (case side2=>exact Kd.R_tight rfl HO123.out)
                    rintro e w66 ⟨v126,rfl,ho0,hb,hkp⟩
                    refine ⟨_,rfl,?_⟩;have n0_:=A0_.mk (bkK (by (with_reducible repeat first|apply bkN|apply bkD|apply bkA);exact BK112.out) hkp (fun hs_=>(fun e_=>(Kd.R_ne HO123.out BK112.out (by decide)) e_) hs_));have n1_:=A0_.mk (Kd.R_mono (ok':=fun k_=>True) ho0 (fun k_ hk_=>trivial));have n2_:=A0_.mk (hb);clear BK112;clear HB;clear HO123;have BK112:=n0_;have HO127:=n1_;have HB:=n2_;clear n0_ n1_ n2_;(try clear hb);(try clear hkp);(try clear ho0);obtain ⟨Ao67,co67,eo67⟩:=Kd.R_slice HO127.out
                    (first|subst eo67|(injection eo67 with f1_ f2_ f3_;have f4_:=f1_.symm;have f5_:=f3_.symm;clear f1_ f2_ f3_;subst f4_;subst f5_))
                    refine hK.out _ _ ⟨(bkC BK112.out 0).trans rfl,((HB.out.cell (World.block_lt_of_cell? w _ hw128_0)).trans hw128_0),((HB.out.cell (World.block_lt_of_cell? w _ hw128_1)).trans hw128_1),((HB.out.cell (World.block_lt_of_cell? w _ hw128_2)).trans hw128_2)⟩ (fun hHeld=>?_);clear hK K;refine norm_ (a':=?_) ?_ ?_;rotate_left
                    ·show Act.put _ (some 101) _=_
                     simp only [Act.put,List.setIfInBounds_toArray,List.set_cons_zero,List.set_cons_succ,i64_w,i32_w];rfl
                    refine pure_ (i:=2) (N:=some 102) (v:=?_) (a':=?_) #[y_,y_,y_,y_,y_,y_,y_,y_,y_,n_] rfl rfl (any_of HT_.out (by kernel_rfl)) (fun _ _ _ h=>h) (Or.inl ⟨by rfl,?_⟩) ?_ ?_;rotate_left
                    ·intro w'
                     go_simp;with_reducible rfl
                    rotate_left
                    ·simp only [Act.put,List.setIfInBounds_toArray,List.set_cons_zero,List.set_cons_succ,i64_w,i32_w]
                     rfl
                    refine pure_ (i:=9) (N:=some 109) (v:=?_) (a':=?_) #[y_,y_,y_,y_,y_,y_,y_,y_,y_,y_] rfl rfl (any_of HT_.out (by kernel_rfl)) (fun _ _ _ h=>h) (Or.inl ⟨by rfl,?_⟩) ?_ ?_;rotate_left
                    ·intro w'
                     go_simp;with_reducible rfl
                    rotate_left
                    ·simp only [Act.put,List.setIfInBounds_toArray,List.set_cons_zero,List.set_cons_succ,i64_w,i32_w]
                     rfl
                    refine done_ (done_of HT_.out (by kernel_rfl)) ?_
                    try go_wp2
                    go_roundg k3
                    case measure=>have:=HJ1.out;have:=HK2.out;have:=HK3.out;omega
                    case rel=>exact ⟨(wrap64 (x92_3+1)),(by first|rfl|(simp;done)|(simp [*];done)),H',⟨by have:=HJ1.out;have:=HK2.out;have:=HK3.out;omega⟩,⟨by (with_reducible repeat first|apply bkN|apply bkD|apply bkA);exact BK112.out⟩,⟨by repeat (first|(with_reducible first|exact HB.out|apply bal|apply pdN|apply bdr|refine bst ?_ GE112.out)|exact HB.out)⟩⟩
                   ·rw [if_neg c60] at H
                    have c60b0:((t125.length:Int)==((rT l0_0 x92_3).f2))=false:=beq_eq_false_iff_ne.mpr c60;have c60b1:((t125.length:Int) != ((rT l0_0 x92_3).f2))=true:=bne_iff_ne.mpr c60
                    obtain rfl:=Option.some.inj H
                    have hcz68_0:wr.cell? ⟨gb112,0,none⟩=some (.slice (some ad113) l0_0.length c0_0):=(bkC BK112.out 0).trans rfl
                    have hfz68_0:=bkF BK112.out 0
                    try go_wp2_with (first|((with_reducible refine gtC (f:=57) rfl ?_);refine goesL_ (some 97) rfl rfl Try.func57 (by kernel_rfl) rfl #[.agg #[.slice (some ad113) l0_0.length c0_0],.int .i64 x92_3] rfl (by (try simp only [List.map_toArray,List.map_cons,List.map_nil]);first|done|rfl|(simp only [List.length_drop,List.length_take];rfl)) ?_;(with_reducible refine (iFf.calls k3 _ _ l0_0 x92_3 t121 _ ?side1 ?side2 A55.out).mono ?_);(case side1=>repeat (first|exact (Kd.C_below HR0_0.out HB.out)|(with_reducible refine Kd.C_alloc ?_ _)|(with_reducible refine Kd.C_drewN ?_ _)|(with_reducible refine Kd.C_drew ?_)));(case side2=>exact HC0_0.out);rintro e w69 ⟨v122,rfl,ho0,hb⟩;refine ⟨_,rfl,?_⟩;have n0_:=A0_.mk (Kd.R_lower ho0 (bsz (by repeat (first|(with_reducible first|exact HB.out|apply bal|apply pdN|apply bdr|refine bst ?_ GE112.out)|exact HB.out))));have n1_:=A0_.mk (bkB (g:=gb112) (o:=.cells #[.slice (some ad113) l0_0.length c0_0] 36 (0,0)) (by (with_reducible repeat first|apply bkN|apply bkD|apply bkA);exact BK112.out) hb);have n2_:=A0_.mk (bsp (by repeat (first|(with_reducible first|exact HB.out|apply bal|apply pdN|apply bdr|refine bst ?_ GE112.out)|exact HB.out)) hb);clear BK112;clear HB;have HO123:=n0_;have BK112:=n1_;have HB:=n2_;clear n0_ n1_ n2_;(try clear hb);(try clear hb2);(try clear hk);(try clear hi);(try clear ho0);obtain ⟨Ao70,co70,eo70⟩:=Kd.R_slice HO123.out;subst eo70)|((with_reducible refine gtC (f:=58) rfl ?_);refine goesL_ (some 99) rfl rfl Try.func58 (by kernel_rfl) rfl #[.slice Ao70 t121.length co70] rfl (by (try simp only [List.map_toArray,List.map_cons,List.map_nil]);first|done|rfl|(simp only [List.length_drop,List.length_take];rfl)) ?_;(with_reducible refine (sSort.calls (fun k_=>some k_=(.slice Ao70 t121.length co70:Value).ownBlock) (.slice Ao70 t121.length co70) t121 t124 w _ ?side1 ?side2 A56.out).mono ?_);(case side1=>repeat (first|(with_reducible first|exact HB.out|apply bal|apply pdN|apply bdr|refine bst ?_ GE112.out)|exact HB.out));(case side2=>exact Kd.R_tight rfl HO123.out);rintro e w71 ⟨rfl,hy0,hb,hkp⟩;refine ⟨_,rfl,?_⟩;have n0_:=A0_.mk (bkK (by (with_reducible repeat first|apply bkN|apply bkD|apply bkA);exact BK112.out) hkp (fun hs_=>(fun e_=>(Kd.R_ne HO123.out BK112.out (by decide)) e_) hs_));have n1_:=A0_.mk (Kd.R_reok rfl hy0 (fun k_ e_=>HO123.out.1 k_ e_));have n2_:=A0_.mk (hb);clear BK112;clear HO123;clear HB;have BK112:=n0_;have HO123:=n1_;have HB:=n2_;clear n0_ n1_ n2_;(try clear hb);(try clear hkp);(try clear hy0)))
                    have n0_:=A0_.mk (Kd.R_drew HO123.out);have n1_:=A0_.mk (bkD BK112.out);have n2_:=A0_.mk (bdr HB.out);clear HO123;clear BK112;clear HB;have HO123:=n0_;have BK112:=n1_;have HB:=n2_;clear n0_ n1_ n2_;have p128:0≤(x92_3:Int):=of_decide_eq_true (by first|(with_reducible assumption)|assumption)
                    have q128:x92_3 < (l0_0.length:Int):=of_decide_eq_true (by first|(with_reducible assumption)|assumption);obtain ⟨ad128,e128,hx128_0,hx128_1,hx128_2⟩:=at_T75 HR0_0.out x92_3 p128 q128;have hw128_2:=hx128_2;have hw128_1:=hx128_1;have hw128_0:=hx128_0
                    obtain rfl:ad113=ad128:=(by injection e128)
                    replace hx128_0:=(HB.out.cell (World.block_lt_of_cell? w _ hx128_0)).trans hx128_0;replace hx128_1:=(HB.out.cell (World.block_lt_of_cell? w _ hx128_1)).trans hx128_1;replace hx128_2:=(HB.out.cell (World.block_lt_of_cell? w _ hx128_2)).trans hx128_2;replace p128:=eq_true p128;replace q128:=eq_true q128;refine start_ (n:=10) (S:=fun w'=>w'.cell? ⟨gb112,0,none⟩=some (.slice (some ad113) l0_0.length c0_0)∧w'.cell? (ad113.add ((x92_3).toNat * 3))=some (.int .i64 ((rT l0_0 x92_3).f0))∧w'.cell? ⟨(ad113.add ((x92_3).toNat * 3)).block,(ad113.add ((x92_3).toNat * 3)).off+1,none⟩=some (.string ((rT l0_0 x92_3).f1))∧w'.cell? ⟨(ad113.add ((x92_3).toNat * 3)).block,(ad113.add ((x92_3).toNat * 3)).off+2,none⟩=some (.int .i64 ((rT l0_0 x92_3).f2))) (ds:=[]) #[n_,n_,n_,n_,n_,n_,n_,n_,n_,n_] (by kernel_rfl) rfl rfl ⟨(bkC BK112.out 0).trans rfl,((HB.out.cell (World.block_lt_of_cell? w _ hw128_0)).trans hw128_0),((HB.out.cell (World.block_lt_of_cell? w _ hw128_1)).trans hw128_1),((HB.out.cell (World.block_lt_of_cell? w _ hw128_2)).trans hw128_2)⟩ (fun hHeld=>?_);refine with_tabW iFO.tab26 iFO.bits26 (fun HT_ HW_=>?_)
                    generalize w71.drew=w72 at HO123 BK112 HB hx128_0 hx128_1 hx128_2 hHeld ⊢
                    refine pure_ (i:=0) (N:=some 100) (v:=?_) (a':=?_) #[y_,n_,n_,n_,n_,n_,n_,n_,n_,n_] rfl rfl (any_of HT_.out (by kernel_rfl)) (fun _ _ _ h=>h) (Or.inl ⟨by rfl,?_⟩) ?_ ?_;rotate_left
                    ·intro w'
                     go_simp;with_reducible rfl
                    rotate_left
                    ·simp only [Act.put,List.setIfInBounds_toArray,List.set_cons_zero,List.set_cons_succ,i64_w,i32_w]
                     rfl
                    refine pure_ (i:=3) (N:=some 103) (v:=?_) (a':=?_) #[y_,n_,n_,y_,n_,n_,n_,n_,n_,n_] rfl rfl (any_of HT_.out (by kernel_rfl)) (fun _ _ _ h=>h) (Or.inl ⟨by rfl,?_⟩) ?_ ?_;rotate_left
                    ·intro w'
                     go_simp;with_reducible rfl
                    rotate_left
                    ·simp only [Act.put,List.setIfInBounds_toArray,List.set_cons_zero,List.set_cons_succ,i64_w,i32_w]
                     rfl
                    refine pure_ (i:=5) (N:=some 105) (v:=?_) (a':=?_) #[y_,n_,n_,y_,n_,y_,n_,n_,n_,n_] rfl rfl (any_of HT_.out (by kernel_rfl)) (fun _ _ _ h=>h) (Or.inl ⟨by rfl,?_⟩) ?_ ?_;rotate_left
                    ·intro w'
                     go_simp;with_reducible rfl
                    rotate_left
                    ·simp only [Act.put,List.setIfInBounds_toArray,List.set_cons_zero,List.set_cons_succ,i64_w,i32_w]
                     rfl
                    refine take_ (i:=4) (N:=some 104) (v:=?_) (a':=?_) #[y_,n_,n_,y_,y_,y_,n_,n_,n_,n_] rfl rfl (take_ofW HT_.out HW_.out (by kernel_rfl)) (fun _ _ _ h=>h) (Or.inl ⟨by rfl,?_⟩) hHeld ?_ ?_;rotate_left
                    ·rintro w' ⟨s0,s1,s2,s3⟩
                     go_simp;with_reducible rfl
                    rotate_left
                    ·simp only [Act.put,List.setIfInBounds_toArray,List.set_cons_zero,List.set_cons_succ,i64_w,i32_w]
                     rfl
                    refine pure_ (i:=6) (N:=some 106) (v:=?_) (a':=?_) #[y_,n_,n_,y_,y_,y_,y_,n_,n_,n_] rfl rfl (any_of HT_.out (by kernel_rfl)) (fun _ _ _ h=>h) (Or.inl ⟨by rfl,?_⟩) ?_ ?_;rotate_left
                    ·intro w'
                     go_simp;with_reducible rfl
                    rotate_left
                    ·simp only [Act.put,List.setIfInBounds_toArray,List.set_cons_zero,List.set_cons_succ,i64_w,i32_w]
                     rfl
                    refine pure_ (i:=7) (N:=some 107) (v:=?_) (a':=?_) #[y_,n_,n_,y_,y_,y_,y_,y_,n_,n_] rfl rfl (any_of HT_.out (by kernel_rfl)) (fun _ _ _ h=>h) (Or.inl ⟨by rfl,?_⟩) ?_ ?_;rotate_left
                    ·intro w'
                     go_simp;with_reducible rfl
                    rotate_left
                    ·simp only [Act.put,List.setIfInBounds_toArray,List.set_cons_zero,List.set_cons_succ,i64_w,i32_w]
                     rfl
                    refine take_ (i:=8) (N:=some 108) (v:=?_) (a':=?_) #[y_,n_,n_,y_,y_,y_,y_,y_,y_,n_] rfl rfl (take_ofW HT_.out HW_.out (by kernel_rfl)) (fun _ _ _ h=>h) (Or.inl ⟨by rfl,?_⟩) hHeld ?_ ?_;rotate_left
                    ·rintro w' ⟨s0,s1,s2,s3⟩
                     go_simp;with_reducible rfl
                    rotate_left
                    ·simp only [Act.put,List.setIfInBounds_toArray,List.set_cons_zero,List.set_cons_succ,i64_w,i32_w]
                     rfl
                    refine one_ (i:=1) (N:=some 101) #[y_,y_,n_,y_,y_,y_,y_,y_,y_,n_] rfl rfl (one_of HT_.out (by kernel_rfl)) (by decide) (fun K hK=>?_);refine goes_ Try.func59 (by kernel_rfl) rfl #[.slice Ao70 t121.length co70] (by rfl) rfl rfl (by (try simp only [List.map_toArray,List.map_cons,List.map_nil]);first|done|rfl|(simp only [List.length_drop,List.length_take];rfl)) ?_
                    with_reducible refine (sComp.calls (fun k_=>some k_=(.slice Ao70 t121.length co70:Value).ownBlock) (.slice Ao70 t121.length co70) t124 t125 w _ ?side1 ?side2 A57.out).mono ?_
                    (case side1=>repeat (first|(with_reducible first|exact HB.out|apply bal|apply pdN|apply bdr|refine bst ?_ GE112.out)|exact HB.out))
                    (case side2=>exact Kd.R_tight rfl HO123.out)
                    rintro e w73 ⟨v126,rfl,ho0,hb,hkp⟩
                    refine ⟨_,rfl,?_⟩;have n0_:=A0_.mk (bkK (by (with_reducible repeat first|apply bkN|apply bkD|apply bkA);exact BK112.out) hkp (fun hs_=>(fun e_=>(Kd.R_ne HO123.out BK112.out (by decide)) e_) hs_));have n1_:=A0_.mk (Kd.R_mono (ok':=fun k_=>True) ho0 (fun k_ hk_=>trivial));have n2_:=A0_.mk (hb);clear BK112;clear HB;clear HO123;have BK112:=n0_;have HO127:=n1_;have HB:=n2_;clear n0_ n1_ n2_;(try clear hb);(try clear hkp);(try clear ho0);obtain ⟨Ao74,co74,eo74⟩:=Kd.R_slice HO127.out
                    (first|subst eo74|(injection eo74 with f1_ f2_ f3_;have f4_:=f1_.symm;have f5_:=f3_.symm;clear f1_ f2_ f3_;subst f4_;subst f5_))
                    refine hK.out _ _ ⟨(bkC BK112.out 0).trans rfl,((HB.out.cell (World.block_lt_of_cell? w _ hw128_0)).trans hw128_0),((HB.out.cell (World.block_lt_of_cell? w _ hw128_1)).trans hw128_1),((HB.out.cell (World.block_lt_of_cell? w _ hw128_2)).trans hw128_2)⟩ (fun hHeld=>?_);clear hK K;refine norm_ (a':=?_) ?_ ?_;rotate_left
                    ·show Act.put _ (some 101) _=_
                     simp only [Act.put,List.setIfInBounds_toArray,List.set_cons_zero,List.set_cons_succ,i64_w,i32_w];rfl
                    refine pure_ (i:=2) (N:=some 102) (v:=?_) (a':=?_) #[y_,y_,y_,y_,y_,y_,y_,y_,y_,n_] rfl rfl (any_of HT_.out (by kernel_rfl)) (fun _ _ _ h=>h) (Or.inl ⟨by rfl,?_⟩) ?_ ?_;rotate_left
                    ·intro w'
                     go_simp;with_reducible rfl
                    rotate_left
                    ·simp only [Act.put,List.setIfInBounds_toArray,List.set_cons_zero,List.set_cons_succ,i64_w,i32_w]
                     rfl
                    refine pure_ (i:=9) (N:=some 109) (v:=?_) (a':=?_) #[y_,y_,y_,y_,y_,y_,y_,y_,y_,y_] rfl rfl (any_of HT_.out (by kernel_rfl)) (fun _ _ _ h=>h) (Or.inl ⟨by rfl,?_⟩) ?_ ?_;rotate_left
                    ·intro w'
                     go_simp;with_reducible rfl
                    rotate_left
                    ·simp only [Act.put,List.setIfInBounds_toArray,List.set_cons_zero,List.set_cons_succ,i64_w,i32_w]
                     rfl
                    refine done_ (done_of HT_.out (by kernel_rfl)) ?_
                    try go_wp2
                    go_ret;exact ⟨by first|rfl|(simp [errW_none,errW_some] <;> rfl)|(simp [*,errW_none,errW_some] <;> rfl),by repeat (first|(with_reducible first|exact HB.out|apply bal|apply pdN|apply bdr|refine bst ?_ GE112.out)|exact HB.out)⟩
                  ·rw [if_neg c59] at H
                   exact absurd H (by simp)
                 ·rw [if_neg c58] at H
                  exact absurd H (by simp)
                ·rw [if_neg c54] at H
                 have c54b0:decide (x92_3 < (l0_0.length:Int))=false:=decide_eq_false c54;clear c54
                 obtain rfl:=Option.some.inj H
                 go_wp2;go_ret
                 exact ⟨by first|rfl|(simp [errW_none,errW_some] <;> rfl)|(simp [*,errW_none,errW_some] <;> rfl),by repeat (first|(with_reducible first|exact HB.out|apply bal|apply pdN|apply bdr|refine bst ?_ GE112.out)|exact HB.out)⟩
          ·rw [if_neg cfit] at H
           exact absurd H (by simp)
      ·rw [if_neg c10] at H
       exact absurd H (by simp)
    ·rw [if_neg c7] at H
     exact absurd H (by simp)

end Go.Proofs.Ytclploookcjcbaa.PFr
