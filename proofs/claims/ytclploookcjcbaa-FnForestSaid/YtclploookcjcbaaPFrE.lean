/- Proved: each Go function that is named below comes to the answers of the Lean function printed for it. Printed by a changed copy of the kit's print program (wip/mkpk.py), for this claim. -/
import Derived.Test.YtclploookcjcbaaPFrx0
namespace Go.Proofs.Ytclploookcjcbaa.PFr
open Go.RowKit Go.Proofs.YtclploookcjcbaaW.PrintWords Go.Proofs.YtclploookcjcbaaW.PrintLast Go.Proofs.YtclploookcjcbaaW.PrintMore
attribute [local go_sem] max2_int min2_int max_two min_two max_three min_three max_four min_four   -- for this text's walks alone
set_option linter.unusedVariables false
set_option linter.unusedSimpArgs false
attribute [local go_sem high] eqA75

/-! ### laws_wForest: function 37 -/
def laws_wForest.l0:Nat → Int → Int → List (S75) → List (S75) → Option (Bool)
 |0,_,_,_,_=>none
 |k+1,x15,x16,x204000,x205000=>if x16 < x15 then (if 0≤x16 then (if x16 < (x204000.length:Int) then (if x16 < (x205000.length:Int) then (if (!(((rT x204000 x16).f0)==((rT x205000 x16).f0)) || (!((((rT x204000 x16).f1).toList)==(((rT x205000 x16).f1).toList)) || (!(((rT x204000 x16).f2)==((rT x205000 x16).f2)))))=true then (none) else (laws_wForest.l0 k x15 (wrap64 (x16+1)) x204000 x205000)) else (none)) else (none)) else (none)) else (some true)
def laws_wForest.f (k:Nat) (l0_0:List (S75)) (l1_0:List (S75)):Option (Bool):=if (l0_0.length:Int)=(l1_0.length:Int) then (laws_wForest.l0 k (l0_0.length:Int) 0 l0_0 l1_0) else (none)
theorem laws_wForest.mono_l:∀ k,(∀ y0 y1 y2 y3,LeO (laws_wForest.l0 k y0 y1 y2 y3) (laws_wForest.l0 (k+1) y0 y1 y2 y3))
 |0=>fun _ _ _ _ r h=>by simp [laws_wForest.l0] at h
 |k+1=>by
  have ih0:=laws_wForest.mono_l k
  ·intro y0 y1 y2 y3
   unfold laws_wForest.l0
   repeat' first
   |(with_reducible exact ih0 _ _ _ _)
   |(with_reducible exact LeO.refl _)
   |(with_reducible exact LeO.none _)
   |(with_reducible refine LeO.ite ?_ ?_)
   |(with_reducible refine LeO.bind ?_ (fun _=>?_))
   |exact ih0 _ _ _ _
   |exact LeO.none _
   |refine LeO.ite ?_ ?_
   |refine LeO.bind ?_ (fun _=>?_)
theorem laws_wForest.mono:∀ a0 a1 k,LeO (laws_wForest.f k a0 a1) (laws_wForest.f (k+1) a0 a1):=by
 intro a0 a1 k
 have ih0:=laws_wForest.mono_l k;unfold laws_wForest.f
 repeat' first
   |(with_reducible exact ih0 _ _ _ _)
   |(with_reducible exact LeO.refl _)
   |(with_reducible exact LeO.none _)
   |(with_reducible refine LeO.ite ?_ ?_)
   |(with_reducible refine LeO.bind ?_ (fun _=>?_))
   |exact ih0 _ _ _ _
   |exact LeO.none _
   |refine LeO.ite ?_ ?_
   |refine LeO.bind ?_ (fun _=>?_)
set_option maxHeartbeats 8000000 in
set_option maxRecDepth 100000 in
theorem laws_wForest.calls (k:Nat) (A0_0:Option Addr) (c0_0:Nat) (l0_0:List (S75)) (A1_0:Option Addr) (c1_0:Nat) (l1_0:List (S75)) (r:Bool) (w:World) (hr0_0:Kd.C k75 w A0_0 l0_0.length l0_0) (hc0_0:l0_0.length≤c0_0) (hr1_0:Kd.C k75 w A1_0 l1_0.length l1_0) (hc1_0:l1_0.length≤c1_0) (h:laws_wForest.f k l0_0 l1_0=some r) :
  Calls Try.prog 37 #[.agg #[.slice A0_0 l0_0.length c0_0],.agg #[.slice A1_0 l1_0.length c1_0]] w fun e w'=>e=.returned (.bool r)∧Below w.heap.size w w':=by
 have hu36:=Try.underlying36;have hu75:=Try.underlying75;have HR0_0:=A0_.mk hr0_0;have HC0_0:=A0_.mk hc0_0;clear hr0_0 hc0_0;have HR1_0:=A0_.mk hr1_0;have HC1_0:=A0_.mk hc1_0;clear hr1_0 hc1_0;have HB:=A0_.mk (Below.refl w.heap.size w);have H:(if (l0_0.length:Int)=(l1_0.length:Int) then (laws_wForest.l0 k (l0_0.length:Int) 0 l0_0 l1_0) else (none))=some r:=h;clear h
 by_cases c3:(l0_0.length:Int)=(l1_0.length:Int)
 ·rw [if_pos c3] at H
  have c3b0:((l0_0.length:Int)==(l1_0.length:Int))=true:=beq_iff_eq.mpr c3;have c3b1:((l0_0.length:Int) != (l1_0.length:Int))=false:=bne_eq_false_iff_eq.mpr c3;have c3b2:(l0_0.length==l1_0.length)=true:=by first|simpa using c3|(simp at c3 ⊢;omega)
  clear c3
  have H':=A0_.mk H
  clear H
  go_enter Try.func37,Try.ntmps37
  go_wp2_with (first|((with_reducible refine gtD (N:=2) rfl ?_);refine bxE ?hg (N:=2) ?hd (cs:=#[.slice A0_0 l0_0.length c0_0]) (t:=36) ?hr ?_;(case hd=>rfl);(case hg=>rfl);(case hr=>first|(go_simp;done)|(go_simp;rfl));intro gb203 hg w4 hbox hb;have n0_:=A0_.mk (bsp (by repeat (first|(with_reducible first|exact HB.out|apply bal|apply pdN|apply bdr)|exact HB.out)) hb);have n1_:=A0_.mk (hbox);have n2_:=A0_.mk ((by rw [hg];exact (bsz (by repeat (first|(with_reducible first|exact HB.out|apply bal|apply pdN|apply bdr)|exact HB.out))):w.heap.size≤gb203));have n3_:=A0_.mk ((by rw [hg];exact (bsz (by repeat (first|(with_reducible first|exact HB.out|apply bal|apply pdN|apply bdr)|exact HB.out))):w.heap.size≤gb203));clear HB;have HB:=n0_;have BK203:=n1_;have GW203:=n2_;have GE203:=n3_;clear n0_ n1_ n2_ n3_;clear hb hbox hg)|((with_reducible refine gtD (N:=3) rfl ?_);refine bxE ?hg (N:=3) ?hd (cs:=#[.slice A1_0 l1_0.length c1_0]) (t:=36) ?hr ?_;(case hd=>rfl);(case hg=>rfl);(case hr=>first|(go_simp;done)|(go_simp;rfl));intro gb204 hg w5 hbox hb;have n0_:=A0_.mk (bkB (g:=gb203) (o:=.cells #[.slice A0_0 l0_0.length c0_0] 36 (0,0)) (by (with_reducible repeat first|apply bkN|apply bkD|apply bkA);exact BK203.out) hb);have n1_:=A0_.mk (bsp (by repeat (first|(with_reducible first|exact HB.out|apply bal|apply pdN|apply bdr|refine bst ?_ GE203.out)|exact HB.out)) hb);have n2_:=A0_.mk (hbox);have n3_:=A0_.mk ((by rw [hg];exact (bsz (by repeat (first|(with_reducible first|exact HB.out|apply bal|apply pdN|apply bdr|refine bst ?_ GE203.out)|exact HB.out))):w.heap.size≤gb204));have n4_:=A0_.mk ((by rw [hg];exact (bsz (by repeat (first|(with_reducible first|exact HB.out|apply bal|apply pdN|apply bdr|refine bst ?_ GE203.out)|exact HB.out))):w.heap.size≤gb204));have n5_:=A0_.mk ((by rw [hg];exact Nat.ne_of_lt (blk_lt (g:=gb203) (o:=.cells #[.slice A0_0 l0_0.length c0_0] 36 (0,0)) (by (with_reducible repeat first|apply bkN|apply bkD|apply bkA);exact BK203.out)):gb203≠gb204));have n6_:=A0_.mk ((by rw [hg];exact Nat.ne_of_gt (blk_lt (g:=gb203) (o:=.cells #[.slice A0_0 l0_0.length c0_0] 36 (0,0)) (by (with_reducible repeat first|apply bkN|apply bkD|apply bkA);exact BK203.out)):gb204≠gb203));clear BK203;clear HB;have BK203:=n0_;have HB:=n1_;have BK204:=n2_;have GW204:=n3_;have GE204:=n4_;have NB203_204:=n5_;have NB204_203:=n6_;clear n0_ n1_ n2_ n3_ n4_ n5_ n6_;clear hb hbox hg;have hnb6:=NB203_204.out;have hnc6:=NB204_203.out;have hcz7_0:w5.cell? ⟨gb203,0,none⟩=some (.slice A0_0 l0_0.length c0_0):=(bkC BK203.out 0).trans rfl;have hfz7_0:=bkF BK203.out 0;have hcz8_0:w5.cell? ⟨gb204,0,none⟩=some (.slice A1_0 l1_0.length c1_0):=(bkC BK204.out 0).trans rfl;have hfz8_0:=bkF BK204.out 0))
  repeat (go_quiet (first|((with_reducible refine gtD (N:=2) rfl ?_);refine bxE ?hg (N:=2) ?hd (cs:=#[.slice A0_0 l0_0.length c0_0]) (t:=36) ?hr ?_;(case hd=>rfl);(case hg=>rfl);(case hr=>first|(go_simp;done)|(go_simp;rfl));intro gb203 hg w4 hbox hb;have n0_:=A0_.mk (bsp (by repeat (first|(with_reducible first|exact HB.out|apply bal|apply pdN|apply bdr)|exact HB.out)) hb);have n1_:=A0_.mk (hbox);have n2_:=A0_.mk ((by rw [hg];exact (bsz (by repeat (first|(with_reducible first|exact HB.out|apply bal|apply pdN|apply bdr)|exact HB.out))):w.heap.size≤gb203));have n3_:=A0_.mk ((by rw [hg];exact (bsz (by repeat (first|(with_reducible first|exact HB.out|apply bal|apply pdN|apply bdr)|exact HB.out))):w.heap.size≤gb203));clear HB;have HB:=n0_;have BK203:=n1_;have GW203:=n2_;have GE203:=n3_;clear n0_ n1_ n2_ n3_;clear hb hbox hg)|((with_reducible refine gtD (N:=3) rfl ?_);refine bxE ?hg (N:=3) ?hd (cs:=#[.slice A1_0 l1_0.length c1_0]) (t:=36) ?hr ?_;(case hd=>rfl);(case hg=>rfl);(case hr=>first|(go_simp;done)|(go_simp;rfl));intro gb204 hg w5 hbox hb;have n0_:=A0_.mk (bkB (g:=gb203) (o:=.cells #[.slice A0_0 l0_0.length c0_0] 36 (0,0)) (by (with_reducible repeat first|apply bkN|apply bkD|apply bkA);exact BK203.out) hb);have n1_:=A0_.mk (bsp (by repeat (first|(with_reducible first|exact HB.out|apply bal|apply pdN|apply bdr|refine bst ?_ GE203.out)|exact HB.out)) hb);have n2_:=A0_.mk (hbox);have n3_:=A0_.mk ((by rw [hg];exact (bsz (by repeat (first|(with_reducible first|exact HB.out|apply bal|apply pdN|apply bdr|refine bst ?_ GE203.out)|exact HB.out))):w.heap.size≤gb204));have n4_:=A0_.mk ((by rw [hg];exact (bsz (by repeat (first|(with_reducible first|exact HB.out|apply bal|apply pdN|apply bdr|refine bst ?_ GE203.out)|exact HB.out))):w.heap.size≤gb204));have n5_:=A0_.mk ((by rw [hg];exact Nat.ne_of_lt (blk_lt (g:=gb203) (o:=.cells #[.slice A0_0 l0_0.length c0_0] 36 (0,0)) (by (with_reducible repeat first|apply bkN|apply bkD|apply bkA);exact BK203.out)):gb203≠gb204));have n6_:=A0_.mk ((by rw [hg];exact Nat.ne_of_gt (blk_lt (g:=gb203) (o:=.cells #[.slice A0_0 l0_0.length c0_0] 36 (0,0)) (by (with_reducible repeat first|apply bkN|apply bkD|apply bkA);exact BK203.out)):gb204≠gb203));clear BK203;clear HB;have BK203:=n0_;have HB:=n1_;have BK204:=n2_;have GW204:=n3_;have GE204:=n4_;have NB203_204:=n5_;have NB204_203:=n6_;clear n0_ n1_ n2_ n3_ n4_ n5_ n6_;clear hb hbox hg;have hnb6:=NB203_204.out;have hnc6:=NB204_203.out;have hcz7_0:w5.cell? ⟨gb203,0,none⟩=some (.slice A0_0 l0_0.length c0_0):=(bkC BK203.out 0).trans rfl;have hfz7_0:=bkF BK203.out 0;have hcz8_0:w5.cell? ⟨gb204,0,none⟩=some (.slice A1_0 l1_0.length c1_0):=(bkC BK204.out 0).trans rfl;have hfz8_0:=bkF BK204.out 0));try go_wp2_with (first|((with_reducible refine gtD (N:=2) rfl ?_);refine bxE ?hg (N:=2) ?hd (cs:=#[.slice A0_0 l0_0.length c0_0]) (t:=36) ?hr ?_;(case hd=>rfl);(case hg=>rfl);(case hr=>first|(go_simp;done)|(go_simp;rfl));intro gb203 hg w4 hbox hb;have n0_:=A0_.mk (bsp (by repeat (first|(with_reducible first|exact HB.out|apply bal|apply pdN|apply bdr)|exact HB.out)) hb);have n1_:=A0_.mk (hbox);have n2_:=A0_.mk ((by rw [hg];exact (bsz (by repeat (first|(with_reducible first|exact HB.out|apply bal|apply pdN|apply bdr)|exact HB.out))):w.heap.size≤gb203));have n3_:=A0_.mk ((by rw [hg];exact (bsz (by repeat (first|(with_reducible first|exact HB.out|apply bal|apply pdN|apply bdr)|exact HB.out))):w.heap.size≤gb203));clear HB;have HB:=n0_;have BK203:=n1_;have GW203:=n2_;have GE203:=n3_;clear n0_ n1_ n2_ n3_;clear hb hbox hg)|((with_reducible refine gtD (N:=3) rfl ?_);refine bxE ?hg (N:=3) ?hd (cs:=#[.slice A1_0 l1_0.length c1_0]) (t:=36) ?hr ?_;(case hd=>rfl);(case hg=>rfl);(case hr=>first|(go_simp;done)|(go_simp;rfl));intro gb204 hg w5 hbox hb;have n0_:=A0_.mk (bkB (g:=gb203) (o:=.cells #[.slice A0_0 l0_0.length c0_0] 36 (0,0)) (by (with_reducible repeat first|apply bkN|apply bkD|apply bkA);exact BK203.out) hb);have n1_:=A0_.mk (bsp (by repeat (first|(with_reducible first|exact HB.out|apply bal|apply pdN|apply bdr|refine bst ?_ GE203.out)|exact HB.out)) hb);have n2_:=A0_.mk (hbox);have n3_:=A0_.mk ((by rw [hg];exact (bsz (by repeat (first|(with_reducible first|exact HB.out|apply bal|apply pdN|apply bdr|refine bst ?_ GE203.out)|exact HB.out))):w.heap.size≤gb204));have n4_:=A0_.mk ((by rw [hg];exact (bsz (by repeat (first|(with_reducible first|exact HB.out|apply bal|apply pdN|apply bdr|refine bst ?_ GE203.out)|exact HB.out))):w.heap.size≤gb204));have n5_:=A0_.mk ((by rw [hg];exact Nat.ne_of_lt (blk_lt (g:=gb203) (o:=.cells #[.slice A0_0 l0_0.length c0_0] 36 (0,0)) (by (with_reducible repeat first|apply bkN|apply bkD|apply bkA);exact BK203.out)):gb203≠gb204));have n6_:=A0_.mk ((by rw [hg];exact Nat.ne_of_gt (blk_lt (g:=gb203) (o:=.cells #[.slice A0_0 l0_0.length c0_0] 36 (0,0)) (by (with_reducible repeat first|apply bkN|apply bkD|apply bkA);exact BK203.out)):gb204≠gb203));clear BK203;clear HB;have BK203:=n0_;have HB:=n1_;have BK204:=n2_;have GW204:=n3_;have GE204:=n4_;have NB203_204:=n5_;have NB204_203:=n6_;clear n0_ n1_ n2_ n3_ n4_ n5_ n6_;clear hb hbox hg;have hnb6:=NB203_204.out;have hnc6:=NB204_203.out;have hcz7_0:w5.cell? ⟨gb203,0,none⟩=some (.slice A0_0 l0_0.length c0_0):=(bkC BK203.out 0).trans rfl;have hfz7_0:=bkF BK203.out 0;have hcz8_0:w5.cell? ⟨gb204,0,none⟩=some (.slice A1_0 l1_0.length c1_0):=(bkC BK204.out 0).trans rfl;have hfz8_0:=bkF BK204.out 0)))
  go_loopg [16] k (fun kq v16 w'=>∃ (x16_1:Int),v16=.int .i64 x16_1∧A0_ (laws_wForest.l0 kq (l0_0.length:Int) x16_1 l0_0 l1_0=some r)∧A0_ (kq≤k)∧A0_ (w'.heap[gb203]? = some (.cells #[(.slice A0_0 l0_0.length c0_0)] 36 (0,0)))∧A0_ (w'.heap[gb204]? = some (.cells #[(.slice A1_0 l1_0.length c1_0)] 36 (0,0)))∧A0_ (Below w.heap.size w w'))
  case atStart=>exact ⟨(0),(by first|rfl|(simp;done)|(simp [*];done)),H',⟨Nat.le_refl _⟩,⟨by (with_reducible repeat first|apply bkN|apply bkD|apply bkA);exact BK203.out⟩,⟨by (with_reducible repeat first|apply bkN|apply bkD|apply bkA);exact BK204.out⟩,⟨by repeat (first|(with_reducible first|exact HB.out|apply bal|apply pdN|apply bdr|refine bst ?_ GE203.out|refine bst ?_ GE204.out)|exact HB.out)⟩⟩
  case round=>
   clear H';(try clear c1);(try clear p2);(try clear c3);(try clear c3b0);(try clear c3b1);(try clear c3b2);(try clear c6);(try clear hcz7_0);(try clear hcz8_0);(try clear hfz7_0);(try clear hfz8_0);obtain ⟨x16_1,rfl,HA,HK1,BK203,BK204,HB⟩:=hrel
   cases gk with
   |zero=>exact absurd HA.out (by simp [laws_wForest.l0])
   |succ k1=>
    have H:=HA.out;clear HA;simp only [laws_wForest.l0] at H
    by_cases c9:x16_1 < (l0_0.length:Int)
    ·rw [if_pos c9] at H
     have c9b0:decide (x16_1 < (l0_0.length:Int))=true:=decide_eq_true c9;clear c9
     by_cases c10:0≤x16_1
     ·rw [if_pos c10] at H
      have c10b0:decide (0≤x16_1)=true:=decide_eq_true c10;clear c10
      by_cases c11:x16_1 < (l0_0.length:Int)
      ·rw [if_pos c11] at H
       have c11b0:decide (x16_1 < (l0_0.length:Int))=true:=decide_eq_true c11;clear c11
       by_cases c12:x16_1 < (l1_0.length:Int)
       ·rw [if_pos c12] at H
        have c12b0:decide (x16_1 < (l1_0.length:Int))=true:=decide_eq_true c12;clear c12
        by_cases c13:(!(((rT l0_0 x16_1).f0)==((rT l1_0 x16_1).f0)) || (!((((rT l0_0 x16_1).f1).toList)==(((rT l1_0 x16_1).f1).toList)) || (!(((rT l0_0 x16_1).f2)==((rT l1_0 x16_1).f2)))))=true
        ·rw [if_pos c13] at H
         exact absurd H (by simp)
        ·rw [if_neg c13] at H
         have c13b0:(!(((rT l0_0 x16_1).f0)==((rT l1_0 x16_1).f0)) || (!((((rT l0_0 x16_1).f1).toList)==(((rT l1_0 x16_1).f1).toList)) || (!(((rT l0_0 x16_1).f2)==((rT l1_0 x16_1).f2)))))=false:=by simpa using c13
         clear c13
         have H':=A0_.mk H
         clear H;have hnb14:=NB203_204.out;have hnc14:=NB204_203.out;have hcz15_0:wr.cell? ⟨gb203,0,none⟩=some (.slice A0_0 l0_0.length c0_0):=(bkC BK203.out 0).trans rfl
         have hfz15_0:=bkF BK203.out 0;have p205:0≤(x16_1:Int):=of_decide_eq_true (by first|(with_reducible assumption)|assumption)
         have q205:x16_1 < (l0_0.length:Int):=of_decide_eq_true (by first|(with_reducible assumption)|assumption);obtain ⟨ad205,e205,hx205_0,hx205_1,hx205_2⟩:=at_T75 HR0_0.out x16_1 p205 q205;cases e205;replace hx205_0:=(HB.out.cell (World.block_lt_of_cell? w _ hx205_0)).trans hx205_0;replace hx205_1:=(HB.out.cell (World.block_lt_of_cell? w _ hx205_1)).trans hx205_1;replace hx205_2:=(HB.out.cell (World.block_lt_of_cell? w _ hx205_2)).trans hx205_2;replace p205:=eq_true p205;replace q205:=eq_true q205;have hcz16_0:wr.cell? ⟨gb204,0,none⟩=some (.slice A1_0 l1_0.length c1_0):=(bkC BK204.out 0).trans rfl
         have hfz16_0:=bkF BK204.out 0;have p206:0≤(x16_1:Int):=of_decide_eq_true (by first|(with_reducible assumption)|assumption)
         have q206:x16_1 < (l1_0.length:Int):=of_decide_eq_true (by first|(with_reducible assumption)|assumption);obtain ⟨ad206,e206,hx206_0,hx206_1,hx206_2⟩:=at_T75 HR1_0.out x16_1 p206 q206;cases e206;replace hx206_0:=(HB.out.cell (World.block_lt_of_cell? w _ hx206_0)).trans hx206_0;replace hx206_1:=(HB.out.cell (World.block_lt_of_cell? w _ hx206_1)).trans hx206_1;replace hx206_2:=(HB.out.cell (World.block_lt_of_cell? w _ hx206_2)).trans hx206_2;replace p206:=eq_true p206;replace q206:=eq_true q206;go_wp2
         repeat (go_quiet (fail);try go_wp2)
         go_roundg k1
         case measure=>have:=HK1.out;omega
         case rel=>exact ⟨(wrap64 (x16_1+1)),(by first|rfl|(simp;done)|(simp [*];done)),H',⟨by have:=HK1.out;omega⟩,⟨by (with_reducible repeat first|apply bkN|apply bkD|apply bkA);exact BK203.out⟩,⟨by (with_reducible repeat first|apply bkN|apply bkD|apply bkA);exact BK204.out⟩,⟨by repeat (first|(with_reducible first|exact HB.out|apply bal|apply pdN|apply bdr|refine bst ?_ GE203.out|refine bst ?_ GE204.out)|exact HB.out)⟩⟩
       ·rw [if_neg c12] at H
        exact absurd H (by simp)
      ·rw [if_neg c11] at H
       exact absurd H (by simp)
     ·rw [if_neg c10] at H
      exact absurd H (by simp)
    ·rw [if_neg c9] at H
     have c9b0:decide (x16_1 < (l0_0.length:Int))=false:=decide_eq_false c9;clear c9
     obtain rfl:=Option.some.inj H
     go_wp2
     repeat (go_quiet (fail);try go_wp2)
     go_ret;exact ⟨by first|rfl|(simp [errW_none,errW_some] <;> rfl)|(simp [*,errW_none,errW_some] <;> rfl),by repeat (first|(with_reducible first|exact HB.out|apply bal|apply pdN|apply bdr|refine bst ?_ GE203.out|refine bst ?_ GE204.out)|exact HB.out)⟩
 ·rw [if_neg c3] at H
  exact absurd H (by simp)

end Go.Proofs.Ytclploookcjcbaa.PFr
