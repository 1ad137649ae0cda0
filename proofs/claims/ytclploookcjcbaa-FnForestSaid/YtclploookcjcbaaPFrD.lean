/- Proved: each Go function that is named below comes to the answers of the Lean function printed for it. Printed by a changed copy of the kit's print program (wip/mkpk.py), for this claim. -/
import Derived.Test.YtclploookcjcbaaPFrx0
import Derived.Test.YtclploookcjcbaaPFrA
import Derived.Test.YtclploookcjcbaaPFrB
import Derived.Test.YtclploookcjcbaaPFrC
namespace Go.Proofs.Ytclploookcjcbaa.PFr
open Go.RowKit Go.Proofs.YtclploookcjcbaaW.PrintWords Go.Proofs.YtclploookcjcbaaW.PrintLast Go.Proofs.YtclploookcjcbaaW.PrintMore
attribute [local go_sem] max2_int min2_int max_two min_two max_three min_three max_four min_four   -- for this text's walks alone
set_option linter.unusedVariables false
set_option linter.unusedSimpArgs false

/-! ### spec_l2shape: function 61 -/
def spec_l2shape.f (l0_0:List (S75)) (a1:Int):Option (Bool):=if a1≥0 then (some (decide (a1 < (l0_0.length:Int)))) else (some false)
set_option maxHeartbeats 8000000 in
set_option maxRecDepth 100000 in
theorem spec_l2shape.calls (A0_0:Option Addr) (c0_0:Nat) (l0_0:List (S75)) (a1:Int) (r:Bool) (w:World) (hr0_0:Kd.C k75 w A0_0 l0_0.length l0_0) (hc0_0:l0_0.length≤c0_0) (h:spec_l2shape.f l0_0 a1=some r) :
  Calls Try.prog 61 #[.agg #[.slice A0_0 l0_0.length c0_0],.int .i64 a1] w fun e w'=>e=.returned (.bool r)∧Below w.heap.size w w':=by
 have hu36:=Try.underlying36;have HR0_0:=A0_.mk hr0_0;have HC0_0:=A0_.mk hc0_0;clear hr0_0 hc0_0;have HB:=A0_.mk (Below.refl w.heap.size w);have H:(if a1≥0 then (some (decide (a1 < (l0_0.length:Int)))) else (some false))=some r:=h;clear h
 by_cases c3:a1≥0
 ·rw [if_pos c3] at H
  have c3b0:decide (0≤a1)=true:=decide_eq_true c3;clear c3
  obtain rfl:=Option.some.inj H
  go_enter Try.func61,Try.ntmps61
  go_wp2_with (first|((with_reducible refine gtD (N:=2) rfl ?_);(try (refine gtG (by rfl) ?_;dsimp only));refine bxE ?hg (N:=2) ?hd (cs:=#[.slice A0_0 l0_0.length c0_0]) (t:=36) ?hr ?_;(case hd=>rfl);(case hg=>rfl);(case hr=>first|(go_simp;done)|(go_simp;rfl));intro gb194 hg w4 hbox hb;have n0_:=A0_.mk (bsp (by repeat (first|(with_reducible first|exact HB.out|apply bal|apply pdN|apply bdr)|exact HB.out)) hb);have n1_:=A0_.mk (hbox);have n2_:=A0_.mk ((by rw [hg];exact (bsz (by repeat (first|(with_reducible first|exact HB.out|apply bal|apply pdN|apply bdr)|exact HB.out))):w.heap.size≤gb194));have n3_:=A0_.mk ((by rw [hg];exact (bsz (by repeat (first|(with_reducible first|exact HB.out|apply bal|apply pdN|apply bdr)|exact HB.out))):w.heap.size≤gb194));clear HB;have HB:=n0_;have BK194:=n1_;have GW194:=n2_;have GE194:=n3_;clear n0_ n1_ n2_ n3_;clear hb hbox hg;have hcz5_0:w4.cell? ⟨gb194,0,none⟩=some (.slice A0_0 l0_0.length c0_0):=(bkC BK194.out 0).trans rfl;have hfz5_0:=bkF BK194.out 0))
  go_ret;exact ⟨by first|rfl|(simp [errW_none,errW_some] <;> rfl)|(simp [*,errW_none,errW_some] <;> rfl),by repeat (first|(with_reducible first|exact HB.out|apply bal|apply pdN|apply bdr|refine bst ?_ GE194.out)|exact HB.out)⟩
 ·rw [if_neg c3] at H
  have c3b0:decide (0≤a1)=false:=decide_eq_false c3;clear c3
  obtain rfl:=Option.some.inj H
  go_enter Try.func61,Try.ntmps61
  go_wp2_with (first|((with_reducible refine gtD (N:=2) rfl ?_);(try (refine gtG (by rfl) ?_;dsimp only));refine bxE ?hg (N:=2) ?hd (cs:=#[.slice A0_0 l0_0.length c0_0]) (t:=36) ?hr ?_;(case hd=>rfl);(case hg=>rfl);(case hr=>first|(go_simp;done)|(go_simp;rfl));intro gb194 hg w6 hbox hb;have n0_:=A0_.mk (bsp (by repeat (first|(with_reducible first|exact HB.out|apply bal|apply pdN|apply bdr)|exact HB.out)) hb);have n1_:=A0_.mk (hbox);have n2_:=A0_.mk ((by rw [hg];exact (bsz (by repeat (first|(with_reducible first|exact HB.out|apply bal|apply pdN|apply bdr)|exact HB.out))):w.heap.size≤gb194));have n3_:=A0_.mk ((by rw [hg];exact (bsz (by repeat (first|(with_reducible first|exact HB.out|apply bal|apply pdN|apply bdr)|exact HB.out))):w.heap.size≤gb194));clear HB;have HB:=n0_;have BK194:=n1_;have GW194:=n2_;have GE194:=n3_;clear n0_ n1_ n2_ n3_;clear hb hbox hg))
  go_ret;exact ⟨by first|rfl|(simp [errW_none,errW_some] <;> rfl)|(simp [*,errW_none,errW_some] <;> rfl),by repeat (first|(with_reducible first|exact HB.out|apply bal|apply pdN|apply bdr|refine bst ?_ GE194.out)|exact HB.out)⟩


/-! ### spec_l2fields: function 64 -/
def spec_l2fields.l0:Nat → Int → List ByteArray → Int → List (S75) → Option (List ByteArray)
 |0,_,_,_,_=>none
 |k+1,x5,x6,x7,x144000=>if x7 > 0 then (if 0≤x7 then (if x7 < (x144000.length:Int) then (if 0≤(wrap64 (x5 - 1)) then (if (wrap64 (x5 - 1)) < (x6.length:Int) then (spec_l2fields.l0 k (wrap64 (x5 - 1)) (x6.set ((wrap64 (x5 - 1)):Int).toNat ((rT x144000 x7).f1)) ((rT x144000 x7).f0) x144000) else (none)) else (none)) else (none)) else (none)) else (some x6)
def spec_l2fields.f (k:Nat) (l0_0:List (S75)) (a1:Int):Option (List ByteArray):=if 0≤a1 then (if a1 < (l0_0.length:Int) then (if 0≤((rT l0_0 a1).f2) then (if ((rT l0_0 a1).f2:Int).toNat≤17592186044416 then (spec_l2fields.l0 k ((rT l0_0 a1).f2) (List.replicate ((rT l0_0 a1).f2:Int).toNat (⟨#[]⟩:ByteArray)) a1 l0_0) else (none)) else (none)) else (none)) else (none)
theorem spec_l2fields.mono_l:∀ k,(∀ y0 y1 y2 y3,LeO (spec_l2fields.l0 k y0 y1 y2 y3) (spec_l2fields.l0 (k+1) y0 y1 y2 y3))
 |0=>fun _ _ _ _ r h=>by simp [spec_l2fields.l0] at h
 |k+1=>by
  have ih0:=spec_l2fields.mono_l k
  ·intro y0 y1 y2 y3
   unfold spec_l2fields.l0
   repeat' first
   |(with_reducible exact ih0 _ _ _ _)
   |(with_reducible exact LeO.refl _)
   |(with_reducible exact LeO.none _)
   |(with_reducible refine LeO.ite ?_ ?_)
   |(with_reducible refine LeO.bind ?_ (fun _=>?_))
   |exact ih0 _ _ _ _
   |exact LeO.none _
   |refine LeO.ite ?_ ?_
   |refine LeO.bind ?_ (fun _=>?_)
theorem spec_l2fields.mono:∀ a0 a1 k,LeO (spec_l2fields.f k a0 a1) (spec_l2fields.f (k+1) a0 a1):=by
 intro a0 a1 k
 have ih0:=spec_l2fields.mono_l k;unfold spec_l2fields.f
 repeat' first
   |(with_reducible exact ih0 _ _ _ _)
   |(with_reducible exact LeO.refl _)
   |(with_reducible exact LeO.none _)
   |(with_reducible refine LeO.ite ?_ ?_)
   |(with_reducible refine LeO.bind ?_ (fun _=>?_))
   |exact ih0 _ _ _ _
   |exact LeO.none _
   |refine LeO.ite ?_ ?_
   |refine LeO.bind ?_ (fun _=>?_)
set_option maxHeartbeats 8000000 in
set_option maxRecDepth 100000 in
theorem spec_l2fields.calls (k:Nat) (A0_0:Option Addr) (c0_0:Nat) (l0_0:List (S75)) (a1:Int) (r:List ByteArray) (w:World) (hr0_0:Kd.C k75 w A0_0 l0_0.length l0_0) (hc0_0:l0_0.length≤c0_0) (h:spec_l2fields.f k l0_0 a1=some r) :
  Calls Try.prog 64 #[.agg #[.slice A0_0 l0_0.length c0_0],.int .i64 a1] w fun e w'=>∃ v0_:Value,e=.returned (v0_)∧Kd.R Kd.string 9 w' w.heap.size (fun _=>True) v0_ r∧Below w.heap.size w w':=by
 have hu36:=Try.underlying36;have HR0_0:=A0_.mk hr0_0;have HC0_0:=A0_.mk hc0_0;clear hr0_0 hc0_0;have HB:=A0_.mk (Below.refl w.heap.size w);have H:(if 0≤a1 then (if a1 < (l0_0.length:Int) then (if 0≤((rT l0_0 a1).f2) then (if ((rT l0_0 a1).f2:Int).toNat≤17592186044416 then (spec_l2fields.l0 k ((rT l0_0 a1).f2) (List.replicate ((rT l0_0 a1).f2:Int).toNat (⟨#[]⟩:ByteArray)) a1 l0_0) else (none)) else (none)) else (none)) else (none))=some r:=h;clear h
 by_cases c3:0≤a1
 ·rw [if_pos c3] at H
  have c3b0:decide (0≤a1)=true:=decide_eq_true c3;clear c3
  by_cases c4:a1 < (l0_0.length:Int)
  ·rw [if_pos c4] at H
   have c4b0:decide (a1 < (l0_0.length:Int))=true:=decide_eq_true c4;clear c4
   by_cases c5:0≤((rT l0_0 a1).f2)
   ·rw [if_pos c5] at H
    have c5b0:=eq_true c5;have c5b1:decide (0≤((rT l0_0 a1).f2))=true:=decide_eq_true c5;clear c5
    by_cases c6:((rT l0_0 a1).f2:Int).toNat≤17592186044416
    ·rw [if_pos c6] at H
     have c6b0:=eq_true c6;have c6b1:decide (((rT l0_0 a1).f2:Int).toNat≤17592186044416)=true:=decide_eq_true c6;clear c6;obtain ⟨y145,hy145⟩:∃ y_:List ByteArray,y_=(List.replicate ((rT l0_0 a1).f2:Int).toNat (⟨#[]⟩:ByteArray)):=⟨_,rfl⟩
     replace H:(spec_l2fields.l0 k ((rT l0_0 a1).f2) y145 a1 l0_0)=some r:=by first|(rw [hy145];with_reducible exact H)|(have H2_:=(Option.bind_some _ _).symm.trans H;rw [hy145];with_reducible exact H2_)|(have H2_:=(Option.bind_some _ _).symm.trans H;with_reducible exact H2_)|with_reducible exact H|(rw [hy145];exact H)|exact H
     have Ny145:=A0_.mk hy145;clear hy145
     have H':=A0_.mk H
     clear H
     go_enter Try.func64,Try.ntmps64
     go_wp2_with (first|((with_reducible refine gtD (N:=2) rfl ?_);refine bxE ?hg (N:=2) ?hd (cs:=#[.slice A0_0 l0_0.length c0_0]) (t:=36) ?hr ?_;(case hd=>rfl);(case hg=>rfl);(case hr=>first|(go_simp;done)|(go_simp;rfl));intro gb143 hg w7 hbox hb;have n0_:=A0_.mk (bsp (by repeat (first|(with_reducible first|exact HB.out|apply bal|apply pdN|apply bdr)|exact HB.out)) hb);have n1_:=A0_.mk (hbox);have n2_:=A0_.mk ((by rw [hg];exact (bsz (by repeat (first|(with_reducible first|exact HB.out|apply bal|apply pdN|apply bdr)|exact HB.out))):w.heap.size≤gb143));have n3_:=A0_.mk ((by rw [hg];exact (bsz (by repeat (first|(with_reducible first|exact HB.out|apply bal|apply pdN|apply bdr)|exact HB.out))):w.heap.size≤gb143));clear HB;have HB:=n0_;have BK143:=n1_;have GW143:=n2_;have GE143:=n3_;clear n0_ n1_ n2_ n3_;clear hb hbox hg;have hcz8_0:w7.cell? ⟨gb143,0,none⟩=some (.slice A0_0 l0_0.length c0_0):=(bkC BK143.out 0).trans rfl;have hfz8_0:=bkF BK143.out 0;have p144:0≤(a1:Int):=of_decide_eq_true (by first|(with_reducible assumption)|assumption);have q144:a1 < (l0_0.length:Int):=of_decide_eq_true (by first|(with_reducible assumption)|assumption);obtain ⟨ad144,e144,hx144_0,hx144_1,hx144_2⟩:=at_T75 HR0_0.out a1 p144 q144;cases e144;replace hx144_0:=(HB.out.cell (World.block_lt_of_cell? w _ hx144_0)).trans hx144_0;replace hx144_1:=(HB.out.cell (World.block_lt_of_cell? w _ hx144_1)).trans hx144_1;replace hx144_2:=(HB.out.cell (World.block_lt_of_cell? w _ hx144_2)).trans hx144_2;replace p144:=eq_true p144;replace q144:=eq_true q144)|((with_reducible refine gtD (N:=15) rfl ?_);refine Kd.R_make Kd.string _ 9 rfl (N:=15) rfl 54 _ _ rfl ((rT l0_0 a1).f2) rfl rfl Try.underlying54 (.string ⟨#[]⟩) 16 info9 rfl (by decide) (by omega) (⟨#[]⟩:ByteArray) (ok:=fun _=>True) (okp:=fun _=>True) rfl (fun _ hk=>hk) trivial (of_decide_eq_true (by first|(with_reducible assumption)|assumption)) (Nat.le_trans (Nat.mul_le_mul_right _ (of_decide_eq_true (by first|(with_reducible assumption)|assumption):((rT l0_0 a1).f2).toNat≤17592186044416)) (by omega)) (Below.refl _ _) (Nat.le_refl _) ?_;intro v146 w9 ho10 hb hg_ hnew_;clear hg_ hnew_;(first|rw [← Ny145.out] at ho10|(simp only [Int.reduceToNat] at ho10;rw [← Ny145.out] at ho10));have n0_:=A0_.mk (Kd.R_lower ho10 (bsz (by repeat (first|(with_reducible first|exact HB.out|apply bal|apply pdN|apply bdr|refine bst ?_ GE143.out)|exact HB.out))));have n1_:=A0_.mk (bkB (g:=gb143) (o:=.cells #[.slice (some ad144) l0_0.length c0_0] 36 (0,0)) (by (with_reducible repeat first|apply bkN|apply bkD|apply bkA);exact BK143.out) hb);have n2_:=A0_.mk (bsp (by repeat (first|(with_reducible first|exact HB.out|apply bal|apply pdN|apply bdr|refine bst ?_ GE143.out)|exact HB.out)) hb);clear BK143;clear HB;have HO147:=n0_;have BK143:=n1_;have HB:=n2_;clear n0_ n1_ n2_;clear hb ho10))
     go_loopg [5,7] k (fun kq v5 v7 w'=>∃ (x5_1:Int) (x6_1:List ByteArray) (x7_1:Int),v5=.int .i64 x5_1∧v7=.int .i64 x7_1∧A0_ (spec_l2fields.l0 kq x5_1 x6_1 x7_1 l0_0=some r)∧A0_ (kq≤k)∧A0_ (Kd.R Kd.string 9 w' w.heap.size (fun _=>True) v146 x6_1)∧A0_ (w'.heap[gb143]? = some (.cells #[(.slice (some ad144) l0_0.length c0_0)] 36 (0,0)))∧A0_ (Below w.heap.size w w'))
     case atStart=>exact ⟨((rT l0_0 a1).f2),(y145),(a1),(by first|rfl|(simp;done)|(simp [*];done)),(by first|rfl|(simp;done)|(simp [*];done)),H',⟨Nat.le_refl _⟩,⟨by (with_reducible repeat (first|apply Kd.R_alloc|apply Kd.R_drewN|apply Kd.R_drew));exact HO147.out⟩,⟨by (with_reducible repeat first|apply bkN|apply bkD|apply bkA);exact BK143.out⟩,⟨by repeat (first|(with_reducible first|exact HB.out|apply bal|apply pdN|apply bdr|refine bst ?_ GE143.out)|exact HB.out)⟩⟩
     case round=>
      clear H';(try clear p1);(try clear q1);(try clear hx1);(try clear p2);(try clear c3);(try clear c3b0);(try clear c4);(try clear c4b0);(try clear c5);(try clear c5b0);(try clear c5b1);(try clear c6);(try clear c6b0);(try clear c6b1);(try clear hcz8_0);(try clear hfz8_0);(try clear hx144_0);(try clear hx144_1);(try clear hx144_2);(try clear p144);(try clear q144);obtain ⟨x5_1,x6_1,x7_1,rfl,rfl,HA,HK1,HO_6,BK143,HB⟩:=hrel
      cases gk with
      |zero=>exact absurd HA.out (by simp [spec_l2fields.l0])
      |succ k1=>
       have H:=HA.out;clear HA;simp only [spec_l2fields.l0] at H
       by_cases c11:x7_1 > 0
       ·rw [if_pos c11] at H
        have c11b0:decide (0 < x7_1)=true:=decide_eq_true c11;clear c11
        by_cases c12:0≤x7_1
        ·rw [if_pos c12] at H
         have c12b0:decide (0≤x7_1)=true:=decide_eq_true c12;clear c12
         by_cases c13:x7_1 < (l0_0.length:Int)
         ·rw [if_pos c13] at H
          have c13b0:decide (x7_1 < (l0_0.length:Int))=true:=decide_eq_true c13;clear c13;obtain ⟨ji14,hji14⟩:∃ j_:Int,(wrap64 (x5_1 - 1))=j_:=⟨_,rfl⟩
          replace H:(if 0≤(ji14) then (if (ji14) < (x6_1.length:Int) then (spec_l2fields.l0 k1 ji14 (x6_1.set ((ji14):Int).toNat ((rT l0_0 x7_1).f1)) ((rT l0_0 x7_1).f0) l0_0) else (none)) else (none))=some r:=by first|(rw [hji14] at H;exact H)|(simp only [hji14] at H ⊢;exact H)
          have hji14w:(IntKind.i64.wrap (x5_1 - 1))=ji14:=(i64_w _).trans hji14
          by_cases c15:0≤(ji14)
          ·rw [if_pos c15] at H
           have c15b0:decide (0≤(ji14))=true:=decide_eq_true c15;clear c15
           by_cases c16:(ji14) < (x6_1.length:Int)
           ·rw [if_pos c16] at H
            have c16b0:decide ((ji14) < (x6_1.length:Int))=true:=decide_eq_true c16;clear c16;obtain ⟨y149,hy149⟩:∃ y_:List ByteArray,y_=(x6_1.set ((ji14):Int).toNat ((rT l0_0 x7_1).f1)):=⟨_,rfl⟩
            replace H:(spec_l2fields.l0 k1 ji14 y149 ((rT l0_0 x7_1).f0) l0_0)=some r:=by first|(rw [hy149];with_reducible exact H)|(have H2_:=(Option.bind_some _ _).symm.trans H;rw [hy149];with_reducible exact H2_)|(have H2_:=(Option.bind_some _ _).symm.trans H;with_reducible exact H2_)|with_reducible exact H|(rw [hy149];exact H)|exact H
            have Ny149:=A0_.mk hy149;clear hy149
            have H':=A0_.mk H
            clear H;have hcz18_0:wr.cell? ⟨gb143,0,none⟩=some (.slice (some ad144) l0_0.length c0_0):=(bkC BK143.out 0).trans rfl
            have hfz18_0:=bkF BK143.out 0;have p148:0≤(x7_1:Int):=of_decide_eq_true (by first|(with_reducible assumption)|assumption)
            have q148:x7_1 < (l0_0.length:Int):=of_decide_eq_true (by first|(with_reducible assumption)|assumption);obtain ⟨ad148,e148,hx148_0,hx148_1,hx148_2⟩:=at_T75 HR0_0.out x7_1 p148 q148
            obtain rfl:ad144=ad148:=(by injection e148)
            replace hx148_0:=(HB.out.cell (World.block_lt_of_cell? w _ hx148_0)).trans hx148_0;replace hx148_1:=(HB.out.cell (World.block_lt_of_cell? w _ hx148_1)).trans hx148_1;replace hx148_2:=(HB.out.cell (World.block_lt_of_cell? w _ hx148_2)).trans hx148_2;replace p148:=eq_true p148;replace q148:=eq_true q148;have p17:0≤((ji14):Int):=of_decide_eq_true (by first|(with_reducible assumption)|assumption)
            have q17:((ji14):Int) < ((x6_1.length:Int):Int):=of_decide_eq_true (by first|(with_reducible assumption)|assumption)
            obtain ⟨go17,co17,eo17,gb17,gl17,cl17,HG17⟩:=Kd.R_form HO_6.out (by omega)
            (first|cases eo17|(injection eo17 with ea_ en_ ec_;(first|subst ea_|(injection ea_ with ea_;subst ea_));subst ec_;clear en_))
            have GB17:=A0_.mk gb17;have GG17:=A0_.mk HG17;clear gb17 gl17 HG17;obtain ⟨hx17_0,hf17_0⟩:=Kd.R_celln (⟨#[]⟩:ByteArray) HO_6.out ((ji14):Int) p17 q17;replace p17:=eq_true p17;replace q17:=eq_true q17;have HP19:=Kd.R_putg HO_6.out ((ji14):Int) ((rT l0_0 x7_1).f1)
            go_wp2_with (first|((with_reducible refine gate_store (t:=9) (p:=35) rfl ?_);refine store_event (t:=9) (p:=35) (v:=?vo_w20) (w1:=(wr.setCell ⟨go17,((ji14):Int).toNat,none⟩ (.string ((rT l0_0 x7_1).f1)))) ?hg ?ho ?hn ?hr ?_;(case ho=>rfl);(case hg=>rfl);(case hn=>rfl);(case hr=>first|(go_simp;done)|(go_simp;rfl));intro w20 hw;have hg:wr.grownBy w20 (some go17):=(by rw [hw];exact HP19.2);have hp_:Kd.R Kd.string 9 w20 w.heap.size (fun _=>True) (.slice (some ⟨go17,0,none⟩) x6_1.length co17) y149:=(by rw [hw,Ny149.out];exact HP19.1);clear HP19;have n0_:=A0_.mk (hp_);have n1_:=A0_.mk (blk_grown (g:=gb143) (o:=.cells #[.slice (some ad144) l0_0.length c0_0] 36 (0,0)) (by (with_reducible repeat first|apply bkN|apply bkD|apply bkA);exact BK143.out) hg (Kd.R_ne HO_6.out BK143.out (by decide)));have n2_:=A0_.mk ((by rw [hw];exact bst (HB.out) GB17.out:Below w.heap.size w w20));clear HO_6;clear BK143;clear HB;have HO_6:=n0_;have BK143:=n1_;have HB:=n2_;clear n0_ n1_ n2_;clear hg hw hp_;have hcz21_0:w20.cell? ⟨gb143,0,none⟩=some (.slice (some ad144) l0_0.length c0_0):=(bkC BK143.out 0).trans rfl;have hfz21_0:=bkF BK143.out 0;have p150:0≤(x7_1:Int):=of_decide_eq_true (by first|(with_reducible assumption)|assumption);have q150:x7_1 < (l0_0.length:Int):=of_decide_eq_true (by first|(with_reducible assumption)|assumption);obtain ⟨ad150,e150,hx150_0,hx150_1,hx150_2⟩:=at_T75 HR0_0.out x7_1 p150 q150;obtain rfl:ad144=ad150:=(by injection e150);replace hx150_0:=(HB.out.cell (World.block_lt_of_cell? w _ hx150_0)).trans hx150_0;replace hx150_1:=(HB.out.cell (World.block_lt_of_cell? w _ hx150_1)).trans hx150_1;replace hx150_2:=(HB.out.cell (World.block_lt_of_cell? w _ hx150_2)).trans hx150_2;replace p150:=eq_true p150;replace q150:=eq_true q150))
            go_roundg k1
            case measure=>have:=HK1.out;omega
            case rel=>exact ⟨(ji14),(y149),((rT l0_0 x7_1).f0),(by first|rfl|(simp;done)|(simp only [← hji14] <;> (first|rfl|simp))|(simp [*];done)),(by first|rfl|(simp;done)|(simp [*];done)),H',⟨by have:=HK1.out;omega⟩,⟨by (with_reducible repeat (first|apply Kd.R_alloc|apply Kd.R_drewN|apply Kd.R_drew));exact HO_6.out⟩,⟨by (with_reducible repeat first|apply bkN|apply bkD|apply bkA);exact BK143.out⟩,⟨by repeat (first|(with_reducible first|exact HB.out|apply bal|apply pdN|apply bdr|refine bst ?_ GE143.out)|exact HB.out)⟩⟩
           ·rw [if_neg c16] at H
            exact absurd H (by simp)
          ·rw [if_neg c15] at H
           exact absurd H (by simp)
         ·rw [if_neg c13] at H
          exact absurd H (by simp)
        ·rw [if_neg c12] at H
         exact absurd H (by simp)
       ·rw [if_neg c11] at H
        have c11b0:decide (0 < x7_1)=false:=decide_eq_false c11;clear c11
        obtain rfl:=Option.some.inj H
        go_wp2;go_ret
        exact ⟨_,by first|rfl|(simp [errW_none,errW_some] <;> rfl)|(simp [*,errW_none,errW_some] <;> rfl),by (with_reducible repeat (first|apply Kd.R_alloc|apply Kd.R_drewN|apply Kd.R_drew));exact HO_6.out,by repeat (first|(with_reducible first|exact HB.out|apply bal|apply pdN|apply bdr|refine bst ?_ GE143.out)|exact HB.out)⟩
    ·rw [if_neg c6] at H
     exact absurd H (by simp)
   ·rw [if_neg c5] at H
    exact absurd H (by simp)
  ·rw [if_neg c4] at H
   exact absurd H (by simp)
 ·rw [if_neg c3] at H
  exact absurd H (by simp)


/-! ### spec_l2at: function 62 -/
def spec_l2at.l0:Nat → ByteArray → List ByteArray → Int → Int → Option (Int)
 |0,_,_,_,_=>none
 |k+1,x2,x11,x12,x13=>if x13 < x12 then (if 0≤x13 then (if x13 < (x11.length:Int) then (if (rdOf ByteArray.empty x11 x13).toList=x2.toList then (some x13) else (spec_l2at.l0 k x2 x11 x12 (wrap64 (x13+1)))) else (none)) else (none)) else (some (-1))
def spec_l2at.f (k:Nat) (l0_0:List (S75)) (a1:Int) (a2:ByteArray):Option (Int):=(spec_l2fields.f k l0_0 a1).bind fun t152=>(spec_l2at.l0 k a2 t152 (t152.length:Int) 0)
theorem spec_l2at.mono_l:∀ k,(∀ y0 y1 y2 y3,LeO (spec_l2at.l0 k y0 y1 y2 y3) (spec_l2at.l0 (k+1) y0 y1 y2 y3))
 |0=>fun _ _ _ _ r h=>by simp [spec_l2at.l0] at h
 |k+1=>by
  have ih0:=spec_l2at.mono_l k
  ·intro y0 y1 y2 y3
   unfold spec_l2at.l0
   repeat' first
   |(with_reducible exact ih0 _ _ _ _)
   |(with_reducible exact spec_l2fields.mono _ _ _)
   |(with_reducible exact LeO.refl _)
   |(with_reducible exact LeO.none _)
   |(with_reducible refine LeO.ite ?_ ?_)
   |(with_reducible refine LeO.bind ?_ (fun _=>?_))
   |exact ih0 _ _ _ _
   |exact spec_l2fields.mono _ _ _
   |exact LeO.none _
   |refine LeO.ite ?_ ?_
   |refine LeO.bind ?_ (fun _=>?_)
theorem spec_l2at.mono:∀ a0 a1 a2 k,LeO (spec_l2at.f k a0 a1 a2) (spec_l2at.f (k+1) a0 a1 a2):=by
 intro a0 a1 a2 k
 have ih0:=spec_l2at.mono_l k;unfold spec_l2at.f
 repeat' first
   |(with_reducible exact ih0 _ _ _ _)
   |(with_reducible exact spec_l2fields.mono _ _ _)
   |(with_reducible exact LeO.refl _)
   |(with_reducible exact LeO.none _)
   |(with_reducible refine LeO.ite ?_ ?_)
   |(with_reducible refine LeO.bind ?_ (fun _=>?_))
   |exact ih0 _ _ _ _
   |exact spec_l2fields.mono _ _ _
   |exact LeO.none _
   |refine LeO.ite ?_ ?_
   |refine LeO.bind ?_ (fun _=>?_)
set_option maxHeartbeats 8000000 in
set_option maxRecDepth 100000 in
theorem spec_l2at.calls (k:Nat) (A0_0:Option Addr) (c0_0:Nat) (l0_0:List (S75)) (a1:Int) (a2:ByteArray) (r:Int) (w:World) (hr0_0:Kd.C k75 w A0_0 l0_0.length l0_0) (hc0_0:l0_0.length≤c0_0) (h:spec_l2at.f k l0_0 a1 a2=some r) :
  Calls Try.prog 62 #[.agg #[.slice A0_0 l0_0.length c0_0],.int .i64 a1,.string a2] w fun e w'=>e=.returned (.int .i64 r)∧Below w.heap.size w w':=by
 have hu36:=Try.underlying36;have HR0_0:=A0_.mk hr0_0;have HC0_0:=A0_.mk hc0_0;clear hr0_0 hc0_0;have HB:=A0_.mk (Below.refl w.heap.size w);have H:((spec_l2fields.f k l0_0 a1).bind fun t152=>(spec_l2at.l0 k a2 t152 (t152.length:Int) 0))=some r:=h;clear h;replace H:=Option.bind_eq_some_iff.mp H;obtain ⟨t152,A40,H⟩:=H
 replace H:(spec_l2at.l0 k a2 t152 (t152.length:Int) 0)=some r:=H
 have A4:=A0_.mk A40;clear A40
 have H':=A0_.mk H
 clear H
 go_enter Try.func62,Try.ntmps62
 go_wp2_with (first|((with_reducible refine gtD (N:=3) rfl ?_);refine bxE ?hg (N:=3) ?hd (cs:=#[.slice A0_0 l0_0.length c0_0]) (t:=36) ?hr ?_;(case hd=>rfl);(case hg=>rfl);(case hr=>first|(go_simp;done)|(go_simp;rfl));intro gb151 hg w5 hbox hb;have n0_:=A0_.mk (bsp (by repeat (first|(with_reducible first|exact HB.out|apply bal|apply pdN|apply bdr)|exact HB.out)) hb);have n1_:=A0_.mk (hbox);have n2_:=A0_.mk ((by rw [hg];exact (bsz (by repeat (first|(with_reducible first|exact HB.out|apply bal|apply pdN|apply bdr)|exact HB.out))):w.heap.size≤gb151));have n3_:=A0_.mk ((by rw [hg];exact (bsz (by repeat (first|(with_reducible first|exact HB.out|apply bal|apply pdN|apply bdr)|exact HB.out))):w.heap.size≤gb151));clear HB;have HB:=n0_;have BK151:=n1_;have GW151:=n2_;have GE151:=n3_;clear n0_ n1_ n2_ n3_;clear hb hbox hg;have hcz6_0:w5.cell? ⟨gb151,0,none⟩=some (.slice A0_0 l0_0.length c0_0):=(bkC BK151.out 0).trans rfl;have hfz6_0:=bkF BK151.out 0)|((with_reducible refine gtC (f:=64) rfl ?_);refine goesL_ (some 11) rfl rfl Try.func64 (by kernel_rfl) rfl #[.agg #[.slice A0_0 l0_0.length c0_0],.int .i64 a1] rfl (by (try simp only [List.map_toArray,List.map_cons,List.map_nil]);first|done|rfl|(simp only [List.length_drop,List.length_take];rfl)) ?_;(with_reducible refine (spec_l2fields.calls k _ _ l0_0 a1 t152 _ ?side1 ?side2 A4.out).mono ?_);(case side1=>repeat (first|exact (Kd.C_below HR0_0.out HB.out)|(with_reducible refine Kd.C_alloc ?_ _)|(with_reducible refine Kd.C_drewN ?_ _)|(with_reducible refine Kd.C_drew ?_)));(case side2=>exact HC0_0.out);rintro e w7 ⟨v153,rfl,ho0,hb⟩;refine ⟨_,rfl,?_⟩;have n0_:=A0_.mk (Kd.R_lower ho0 (bsz (by repeat (first|(with_reducible first|exact HB.out|apply bal|apply pdN|apply bdr|refine bst ?_ GE151.out)|exact HB.out))));have n1_:=A0_.mk (bkB (g:=gb151) (o:=.cells #[.slice A0_0 l0_0.length c0_0] 36 (0,0)) (by (with_reducible repeat first|apply bkN|apply bkD|apply bkA);exact BK151.out) hb);have n2_:=A0_.mk (bsp (by repeat (first|(with_reducible first|exact HB.out|apply bal|apply pdN|apply bdr|refine bst ?_ GE151.out)|exact HB.out)) hb);clear BK151;clear HB;have HO154:=n0_;have BK151:=n1_;have HB:=n2_;clear n0_ n1_ n2_;(try clear hb);(try clear hb2);(try clear hk);(try clear hi);(try clear ho0);obtain ⟨Ao8,co8,eo8⟩:=Kd.R_slice HO154.out;subst eo8))
 go_loopg [13] k (fun kq v13 w'=>∃ (x13_1:Int),v13=.int .i64 x13_1∧A0_ (spec_l2at.l0 kq a2 t152 (t152.length:Int) x13_1=some r)∧A0_ (kq≤k)∧A0_ (Kd.R Kd.string 9 w' w.heap.size (fun _=>True) (.slice Ao8 t152.length co8) t152)∧A0_ (w'.heap[gb151]? = some (.cells #[(.slice A0_0 l0_0.length c0_0)] 36 (0,0)))∧A0_ (Below w.heap.size w w'))
 case atStart=>exact ⟨(0),(by first|rfl|(simp;done)|(simp [*];done)),H',⟨Nat.le_refl _⟩,⟨by (with_reducible repeat (first|apply Kd.R_alloc|apply Kd.R_drewN|apply Kd.R_drew));exact HO154.out⟩,⟨by (with_reducible repeat first|apply bkN|apply bkD|apply bkA);exact BK151.out⟩,⟨by repeat (first|(with_reducible first|exact HB.out|apply bal|apply pdN|apply bdr|refine bst ?_ GE151.out)|exact HB.out)⟩⟩
 case round=>
  clear H';(try clear p2);(try clear c6);(try clear hcz6_0);(try clear hfz6_0);obtain ⟨x13_1,rfl,HA,HK1,HO_11,BK151,HB⟩:=hrel
  cases gk with
  |zero=>exact absurd HA.out (by simp [spec_l2at.l0])
  |succ k1=>
   have H:=HA.out;clear HA;simp only [spec_l2at.l0] at H
   by_cases c9:x13_1 < (t152.length:Int)
   ·rw [if_pos c9] at H
    have c9b0:decide (x13_1 < (t152.length:Int))=true:=decide_eq_true c9;clear c9
    by_cases c10:0≤x13_1
    ·rw [if_pos c10] at H
     have c10b0:decide (0≤x13_1)=true:=decide_eq_true c10;clear c10
     by_cases c11:x13_1 < (t152.length:Int)
     ·rw [if_pos c11] at H
      have c11b0:decide (x13_1 < (t152.length:Int))=true:=decide_eq_true c11;clear c11
      by_cases c12:(rdOf ByteArray.empty t152 x13_1).toList=a2.toList
      ·rw [if_pos c12] at H
       have c12b0:((rdOf ByteArray.empty t152 x13_1).toList==a2.toList)=true:=beq_iff_eq.mpr c12;have c12b1:((rdOf ByteArray.empty t152 x13_1).toList != a2.toList)=false:=bne_eq_false_iff_eq.mpr c12;clear c12
       obtain rfl:=Option.some.inj H
       have p155:0≤(x13_1:Int):=of_decide_eq_true (by first|(with_reducible assumption)|assumption)
       have q155:x13_1 < (t152.length:Int):=of_decide_eq_true (by first|(with_reducible assumption)|assumption);obtain ⟨ad155,e155,hx155_0⟩:=Kd.at_string (Kd.R_reads' HO_11.out).2.2 x13_1 p155 q155;cases e155;replace p155:=eq_true p155;replace q155:=eq_true q155;go_wp2;go_ret;exact ⟨by first|rfl|(simp [errW_none,errW_some] <;> rfl)|(simp [*,errW_none,errW_some] <;> rfl),by repeat (first|(with_reducible first|exact HB.out|apply bal|apply pdN|apply bdr|refine bst ?_ GE151.out)|exact HB.out)⟩
      ·rw [if_neg c12] at H
       have c12b0:((rdOf ByteArray.empty t152 x13_1).toList==a2.toList)=false:=beq_eq_false_iff_ne.mpr c12;have c12b1:((rdOf ByteArray.empty t152 x13_1).toList != a2.toList)=true:=bne_iff_ne.mpr c12
       have H':=A0_.mk H
       clear H;have p155:0≤(x13_1:Int):=of_decide_eq_true (by first|(with_reducible assumption)|assumption)
       have q155:x13_1 < (t152.length:Int):=of_decide_eq_true (by first|(with_reducible assumption)|assumption);obtain ⟨ad155,e155,hx155_0⟩:=Kd.at_string (Kd.R_reads' HO_11.out).2.2 x13_1 p155 q155;cases e155;replace p155:=eq_true p155;replace q155:=eq_true q155;go_wp2
       go_roundg k1
       case measure=>have:=HK1.out;omega
       case rel=>exact ⟨(wrap64 (x13_1+1)),(by first|rfl|(simp;done)|(simp [*];done)),H',⟨by have:=HK1.out;omega⟩,⟨by (with_reducible repeat (first|apply Kd.R_alloc|apply Kd.R_drewN|apply Kd.R_drew));exact HO_11.out⟩,⟨by (with_reducible repeat first|apply bkN|apply bkD|apply bkA);exact BK151.out⟩,⟨by repeat (first|(with_reducible first|exact HB.out|apply bal|apply pdN|apply bdr|refine bst ?_ GE151.out)|exact HB.out)⟩⟩
     ·rw [if_neg c11] at H
      exact absurd H (by simp)
    ·rw [if_neg c10] at H
     exact absurd H (by simp)
   ·rw [if_neg c9] at H
    have c9b0:decide (x13_1 < (t152.length:Int))=false:=decide_eq_false c9;clear c9
    obtain rfl:=Option.some.inj H
    go_wp2;go_ret
    exact ⟨by first|rfl|(simp [errW_none,errW_some] <;> rfl)|(simp [*,errW_none,errW_some] <;> rfl),by repeat (first|(with_reducible first|exact HB.out|apply bal|apply pdN|apply bdr|refine bst ?_ GE151.out)|exact HB.out)⟩


/-! ### impl_Forest_has: function 65 -/
def impl_Forest_has.f (k:Nat) (l0_0:List (S75)) (a1:Int):Option (Bool):=(iFO.f k l0_0).bind fun t127=>(if t127=0 then (if a1≥0 then (some (decide (a1 < (l0_0.length:Int)))) else (some false)) else (some false))
theorem impl_Forest_has.mono:∀ a0 a1 k,LeO (impl_Forest_has.f k a0 a1) (impl_Forest_has.f (k+1) a0 a1):=by
 intro a0 a1 k
 unfold impl_Forest_has.f
 repeat' first
   |(with_reducible exact iFO.mono _ _)
   |(with_reducible exact LeO.refl _)
   |(with_reducible exact LeO.none _)
   |(with_reducible refine LeO.ite ?_ ?_)
   |(with_reducible refine LeO.bind ?_ (fun _=>?_))
   |exact iFO.mono _ _
   |exact LeO.none _
   |refine LeO.ite ?_ ?_
   |refine LeO.bind ?_ (fun _=>?_)
set_option maxHeartbeats 8000000 in
set_option maxRecDepth 100000 in
theorem impl_Forest_has.calls (k:Nat) (A0_0:Option Addr) (c0_0:Nat) (l0_0:List (S75)) (a1:Int) (r:Bool) (w:World) (hr0_0:Kd.C k75 w A0_0 l0_0.length l0_0) (hc0_0:l0_0.length≤c0_0) (h:impl_Forest_has.f k l0_0 a1=some r) :
  Calls Try.prog 65 #[.agg #[.slice A0_0 l0_0.length c0_0],.int .i64 a1] w fun e w'=>e=.returned (.bool r)∧Below w.heap.size w w':=by
 have hu36:=Try.underlying36;have HR0_0:=A0_.mk hr0_0;have HC0_0:=A0_.mk hc0_0;clear hr0_0 hc0_0;have HB:=A0_.mk (Below.refl w.heap.size w);have H:((iFO.f k l0_0).bind fun t127=>(if t127=0 then (if a1≥0 then (some (decide (a1 < (l0_0.length:Int)))) else (some false)) else (some false)))=some r:=h;clear h;replace H:=Option.bind_eq_some_iff.mp H;obtain ⟨t127,A30,H⟩:=H
 replace H:(if t127=0 then (if a1≥0 then (some (decide (a1 < (l0_0.length:Int)))) else (some false)) else (some false))=some r:=H
 have A3:=A0_.mk A30;clear A30
 by_cases c4:t127=0
 ·rw [if_pos c4] at H
  have c4b0:(t127==0)=true:=beq_iff_eq.mpr c4;have c4b1:(t127 != 0)=false:=bne_eq_false_iff_eq.mpr c4;clear c4
  by_cases c5:a1≥0
  ·rw [if_pos c5] at H
   have c5b0:decide (0≤a1)=true:=decide_eq_true c5;clear c5
   obtain rfl:=Option.some.inj H
   go_enter Try.func65,Try.ntmps65
   go_wp2_with (first|((with_reducible refine gtD (N:=2) rfl ?_);(try (refine gtG (by rfl) ?_;dsimp only));refine bxE ?hg (N:=2) ?hd (cs:=#[.slice A0_0 l0_0.length c0_0]) (t:=36) ?hr ?_;(case hd=>rfl);(case hg=>rfl);(case hr=>first|(go_simp;done)|(go_simp;rfl));intro gb126 hg w6 hbox hb;have n0_:=A0_.mk (bsp (by repeat (first|(with_reducible first|exact HB.out|apply bal|apply pdN|apply bdr)|exact HB.out)) hb);have n1_:=A0_.mk (hbox);have n2_:=A0_.mk ((by rw [hg];exact (bsz (by repeat (first|(with_reducible first|exact HB.out|apply bal|apply pdN|apply bdr)|exact HB.out))):w.heap.size≤gb126));have n3_:=A0_.mk ((by rw [hg];exact (bsz (by repeat (first|(with_reducible first|exact HB.out|apply bal|apply pdN|apply bdr)|exact HB.out))):w.heap.size≤gb126));clear HB;have HB:=n0_;have BK126:=n1_;have GW126:=n2_;have GE126:=n3_;clear n0_ n1_ n2_ n3_;clear hb hbox hg;have hcz7_0:w6.cell? ⟨gb126,0,none⟩=some (.slice A0_0 l0_0.length c0_0):=(bkC BK126.out 0).trans rfl;have hfz7_0:=bkF BK126.out 0)|((with_reducible refine gtC (f:=24) rfl ?_);refine goesL_ (some 6) rfl rfl Try.func24 (by kernel_rfl) rfl #[.agg #[.slice A0_0 l0_0.length c0_0]] rfl (by (try simp only [List.map_toArray,List.map_cons,List.map_nil]);first|done|rfl|(simp only [List.length_drop,List.length_take];rfl)) ?_;(with_reducible refine (iFO.calls k _ _ l0_0 t127 _ ?side1 ?side2 A3.out).mono ?_);(case side1=>repeat (first|exact (Kd.C_below HR0_0.out HB.out)|(with_reducible refine Kd.C_alloc ?_ _)|(with_reducible refine Kd.C_drewN ?_ _)|(with_reducible refine Kd.C_drew ?_)));(case side2=>exact HC0_0.out);rintro e w8 ⟨rfl,hb⟩;refine ⟨_,rfl,?_⟩;have n0_:=A0_.mk (bkB (g:=gb126) (o:=.cells #[.slice A0_0 l0_0.length c0_0] 36 (0,0)) (by (with_reducible repeat first|apply bkN|apply bkD|apply bkA);exact BK126.out) hb);have n1_:=A0_.mk (bsp (by repeat (first|(with_reducible first|exact HB.out|apply bal|apply pdN|apply bdr|refine bst ?_ GE126.out)|exact HB.out)) hb);clear BK126;clear HB;have BK126:=n0_;have HB:=n1_;clear n0_ n1_;(try clear hb);(try clear hb2);(try clear hk);(try clear hi);have hcz9_0:w8.cell? ⟨gb126,0,none⟩=some (.slice A0_0 l0_0.length c0_0):=(bkC BK126.out 0).trans rfl;have hfz9_0:=bkF BK126.out 0))
   go_ret;exact ⟨by first|rfl|(simp [errW_none,errW_some] <;> rfl)|(simp [*,errW_none,errW_some] <;> rfl),by repeat (first|(with_reducible first|exact HB.out|apply bal|apply pdN|apply bdr|refine bst ?_ GE126.out)|exact HB.out)⟩
  ·rw [if_neg c5] at H
   have c5b0:decide (0≤a1)=false:=decide_eq_false c5;clear c5
   obtain rfl:=Option.some.inj H
   go_enter Try.func65,Try.ntmps65
   go_wp2_with (first|((with_reducible refine gtD (N:=2) rfl ?_);(try (refine gtG (by rfl) ?_;dsimp only));refine bxE ?hg (N:=2) ?hd (cs:=#[.slice A0_0 l0_0.length c0_0]) (t:=36) ?hr ?_;(case hd=>rfl);(case hg=>rfl);(case hr=>first|(go_simp;done)|(go_simp;rfl));intro gb126 hg w10 hbox hb;have n0_:=A0_.mk (bsp (by repeat (first|(with_reducible first|exact HB.out|apply bal|apply pdN|apply bdr)|exact HB.out)) hb);have n1_:=A0_.mk (hbox);have n2_:=A0_.mk ((by rw [hg];exact (bsz (by repeat (first|(with_reducible first|exact HB.out|apply bal|apply pdN|apply bdr)|exact HB.out))):w.heap.size≤gb126));have n3_:=A0_.mk ((by rw [hg];exact (bsz (by repeat (first|(with_reducible first|exact HB.out|apply bal|apply pdN|apply bdr)|exact HB.out))):w.heap.size≤gb126));clear HB;have HB:=n0_;have BK126:=n1_;have GW126:=n2_;have GE126:=n3_;clear n0_ n1_ n2_ n3_;clear hb hbox hg;have hcz11_0:w10.cell? ⟨gb126,0,none⟩=some (.slice A0_0 l0_0.length c0_0):=(bkC BK126.out 0).trans rfl;have hfz11_0:=bkF BK126.out 0)|((with_reducible refine gtC (f:=24) rfl ?_);refine goesL_ (some 6) rfl rfl Try.func24 (by kernel_rfl) rfl #[.agg #[.slice A0_0 l0_0.length c0_0]] rfl (by (try simp only [List.map_toArray,List.map_cons,List.map_nil]);first|done|rfl|(simp only [List.length_drop,List.length_take];rfl)) ?_;(with_reducible refine (iFO.calls k _ _ l0_0 t127 _ ?side1 ?side2 A3.out).mono ?_);(case side1=>repeat (first|exact (Kd.C_below HR0_0.out HB.out)|(with_reducible refine Kd.C_alloc ?_ _)|(with_reducible refine Kd.C_drewN ?_ _)|(with_reducible refine Kd.C_drew ?_)));(case side2=>exact HC0_0.out);rintro e w12 ⟨rfl,hb⟩;refine ⟨_,rfl,?_⟩;have n0_:=A0_.mk (bkB (g:=gb126) (o:=.cells #[.slice A0_0 l0_0.length c0_0] 36 (0,0)) (by (with_reducible repeat first|apply bkN|apply bkD|apply bkA);exact BK126.out) hb);have n1_:=A0_.mk (bsp (by repeat (first|(with_reducible first|exact HB.out|apply bal|apply pdN|apply bdr|refine bst ?_ GE126.out)|exact HB.out)) hb);clear BK126;clear HB;have BK126:=n0_;have HB:=n1_;clear n0_ n1_;(try clear hb);(try clear hb2);(try clear hk);(try clear hi)))
   go_ret;exact ⟨by first|rfl|(simp [errW_none,errW_some] <;> rfl)|(simp [*,errW_none,errW_some] <;> rfl),by repeat (first|(with_reducible first|exact HB.out|apply bal|apply pdN|apply bdr|refine bst ?_ GE126.out)|exact HB.out)⟩
 ·rw [if_neg c4] at H
  have c4b0:(t127==0)=false:=beq_eq_false_iff_ne.mpr c4;have c4b1:(t127 != 0)=true:=bne_iff_ne.mpr c4
  obtain rfl:=Option.some.inj H
  go_enter Try.func65,Try.ntmps65
  go_wp2_with (first|((with_reducible refine gtD (N:=2) rfl ?_);(try (refine gtG (by rfl) ?_;dsimp only));refine bxE ?hg (N:=2) ?hd (cs:=#[.slice A0_0 l0_0.length c0_0]) (t:=36) ?hr ?_;(case hd=>rfl);(case hg=>rfl);(case hr=>first|(go_simp;done)|(go_simp;rfl));intro gb126 hg w13 hbox hb;have n0_:=A0_.mk (bsp (by repeat (first|(with_reducible first|exact HB.out|apply bal|apply pdN|apply bdr)|exact HB.out)) hb);have n1_:=A0_.mk (hbox);have n2_:=A0_.mk ((by rw [hg];exact (bsz (by repeat (first|(with_reducible first|exact HB.out|apply bal|apply pdN|apply bdr)|exact HB.out))):w.heap.size≤gb126));have n3_:=A0_.mk ((by rw [hg];exact (bsz (by repeat (first|(with_reducible first|exact HB.out|apply bal|apply pdN|apply bdr)|exact HB.out))):w.heap.size≤gb126));clear HB;have HB:=n0_;have BK126:=n1_;have GW126:=n2_;have GE126:=n3_;clear n0_ n1_ n2_ n3_;clear hb hbox hg;have hcz14_0:w13.cell? ⟨gb126,0,none⟩=some (.slice A0_0 l0_0.length c0_0):=(bkC BK126.out 0).trans rfl;have hfz14_0:=bkF BK126.out 0)|((with_reducible refine gtC (f:=24) rfl ?_);refine goesL_ (some 6) rfl rfl Try.func24 (by kernel_rfl) rfl #[.agg #[.slice A0_0 l0_0.length c0_0]] rfl (by (try simp only [List.map_toArray,List.map_cons,List.map_nil]);first|done|rfl|(simp only [List.length_drop,List.length_take];rfl)) ?_;(with_reducible refine (iFO.calls k _ _ l0_0 t127 _ ?side1 ?side2 A3.out).mono ?_);(case side1=>repeat (first|exact (Kd.C_below HR0_0.out HB.out)|(with_reducible refine Kd.C_alloc ?_ _)|(with_reducible refine Kd.C_drewN ?_ _)|(with_reducible refine Kd.C_drew ?_)));(case side2=>exact HC0_0.out);rintro e w15 ⟨rfl,hb⟩;refine ⟨_,rfl,?_⟩;have n0_:=A0_.mk (bkB (g:=gb126) (o:=.cells #[.slice A0_0 l0_0.length c0_0] 36 (0,0)) (by (with_reducible repeat first|apply bkN|apply bkD|apply bkA);exact BK126.out) hb);have n1_:=A0_.mk (bsp (by repeat (first|(with_reducible first|exact HB.out|apply bal|apply pdN|apply bdr|refine bst ?_ GE126.out)|exact HB.out)) hb);clear BK126;clear HB;have BK126:=n0_;have HB:=n1_;clear n0_ n1_;(try clear hb);(try clear hb2);(try clear hk);(try clear hi)))
  go_ret;exact ⟨by first|rfl|(simp [errW_none,errW_some] <;> rfl)|(simp [*,errW_none,errW_some] <;> rfl),by repeat (first|(with_reducible first|exact HB.out|apply bal|apply pdN|apply bdr|refine bst ?_ GE126.out)|exact HB.out)⟩


/-! ### sIdx: function 63 -/
def sIdx.l0:Nat → List ByteArray → ByteArray → Int → Int → Option (Int)
 |0,_,_,_,_=>none
 |k+1,x0,x1,x7,x8=>if x8 < x7 then (if 0≤x8 then (if x8 < (x0.length:Int) then (if x1.toList=(rdOf ByteArray.empty x0 x8).toList then (some x8) else (sIdx.l0 k x0 x1 x7 (wrap64 (x8+1)))) else (none)) else (none)) else (some (-1))
def sIdx.f (k:Nat) (l0:List ByteArray) (a1:ByteArray):Option (Int):=sIdx.l0 k l0 a1 (l0.length:Int) 0
theorem sIdx.mono_l:∀ k,(∀ y0 y1 y2 y3,LeO (sIdx.l0 k y0 y1 y2 y3) (sIdx.l0 (k+1) y0 y1 y2 y3))
 |0=>fun _ _ _ _ r h=>by simp [sIdx.l0] at h
 |k+1=>by
  have ih0:=sIdx.mono_l k
  ·intro y0 y1 y2 y3
   unfold sIdx.l0
   repeat' first
   |(with_reducible exact ih0 _ _ _ _)
   |(with_reducible exact LeO.refl _)
   |(with_reducible exact LeO.none _)
   |(with_reducible refine LeO.ite ?_ ?_)
   |(with_reducible refine LeO.bind ?_ (fun _=>?_))
   |exact ih0 _ _ _ _
   |exact LeO.none _
   |refine LeO.ite ?_ ?_
   |refine LeO.bind ?_ (fun _=>?_)
theorem sIdx.mono:∀ a0 a1 k,LeO (sIdx.f k a0 a1) (sIdx.f (k+1) a0 a1):=by
 intro a0 a1 k
 have ih0:=sIdx.mono_l k;unfold sIdx.f
 repeat' first
   |(with_reducible exact ih0 _ _ _ _)
   |(with_reducible exact LeO.refl _)
   |(with_reducible exact LeO.none _)
   |(with_reducible refine LeO.ite ?_ ?_)
   |(with_reducible refine LeO.bind ?_ (fun _=>?_))
   |exact ih0 _ _ _ _
   |exact LeO.none _
   |refine LeO.ite ?_ ?_
   |refine LeO.bind ?_ (fun _=>?_)
set_option maxHeartbeats 8000000 in
set_option maxRecDepth 100000 in
theorem sIdx.calls (k:Nat) (A0:Option Addr) (c0:Nat) (l0:List ByteArray) (a1:ByteArray) (r:Int) (w:World) (hr0:Kd.C Kd.string w A0 l0.length l0) (hc0:l0.length≤c0) (h:sIdx.f k l0 a1=some r) :
  Calls Try.prog 63 #[.slice A0 l0.length c0,.string a1] w fun e w'=>e=.returned (.int .i64 r)∧Drawn0 w w':=by
 have HR0:=A0_.mk hr0;have HC0:=A0_.mk hc0;clear hr0 hc0;have H:(sIdx.l0 k l0 a1 (l0.length:Int) 0)=some r:=h;clear h
 have H':=A0_.mk H
 clear H
 go_enter Try.func63,Try.ntmps63
 go_wp2
 go_loopg [8] k (fun kq v8 w'=>∃ (x8_1:Int),v8=.int .i64 x8_1∧A0_ (sIdx.l0 kq l0 a1 (l0.length:Int) x8_1=some r)∧A0_ (kq≤k)∧Drawn0 w w')
 case atStart=>exact ⟨(0),(by first|rfl|(simp;done)|(simp [*];done)),H',⟨Nat.le_refl _⟩,by repeat (first|exact Drawn0.refl _|apply Drawn0.step)⟩
 case round=>
  clear H';(try clear p2);obtain ⟨x8_1,rfl,HA,HK1,⟨m1,rfl⟩⟩:=hrel
  cases gk with
  |zero=>exact absurd HA.out (by simp [sIdx.l0])
  |succ k1=>
   have H:=HA.out;clear HA;simp only [sIdx.l0] at H
   by_cases c3:x8_1 < (l0.length:Int)
   ·rw [if_pos c3] at H
    have c3b0:decide (x8_1 < (l0.length:Int))=true:=decide_eq_true c3;clear c3
    by_cases c4:0≤x8_1
    ·rw [if_pos c4] at H
     have c4b0:decide (0≤x8_1)=true:=decide_eq_true c4;clear c4
     by_cases c5:x8_1 < (l0.length:Int)
     ·rw [if_pos c5] at H
      have c5b0:decide (x8_1 < (l0.length:Int))=true:=decide_eq_true c5;clear c5
      by_cases c6:a1.toList=(rdOf ByteArray.empty l0 x8_1).toList
      ·rw [if_pos c6] at H
       have c6b0:(a1.toList==(rdOf ByteArray.empty l0 x8_1).toList)=true:=beq_iff_eq.mpr c6;have c6b1:(a1.toList != (rdOf ByteArray.empty l0 x8_1).toList)=false:=bne_eq_false_iff_eq.mpr c6;clear c6
       obtain rfl:=Option.some.inj H
       have p133:0≤(x8_1:Int):=of_decide_eq_true (by first|(with_reducible assumption)|assumption)
       have q133:x8_1 < (l0.length:Int):=of_decide_eq_true (by first|(with_reducible assumption)|assumption);obtain ⟨ad133,e133,hx133_0⟩:=Kd.at_string HR0.out x8_1 p133 q133;cases e133;replace p133:=eq_true p133;replace q133:=eq_true q133;go_wp2;go_ret;exact ⟨by first|rfl|(simp;done)|(simp [*];done),by repeat (first|exact Drawn0.refl _|apply Drawn0.step)⟩
      ·rw [if_neg c6] at H
       have c6b0:(a1.toList==(rdOf ByteArray.empty l0 x8_1).toList)=false:=beq_eq_false_iff_ne.mpr c6;have c6b1:(a1.toList != (rdOf ByteArray.empty l0 x8_1).toList)=true:=bne_iff_ne.mpr c6
       have H':=A0_.mk H
       clear H;have p133:0≤(x8_1:Int):=of_decide_eq_true (by first|(with_reducible assumption)|assumption)
       have q133:x8_1 < (l0.length:Int):=of_decide_eq_true (by first|(with_reducible assumption)|assumption);obtain ⟨ad133,e133,hx133_0⟩:=Kd.at_string HR0.out x8_1 p133 q133;cases e133;replace p133:=eq_true p133;replace q133:=eq_true q133;go_wp2
       go_roundg k1
       case measure=>have:=HK1.out;omega
       case rel=>exact ⟨(wrap64 (x8_1+1)),(by first|rfl|(simp;done)|(simp [*];done)),H',⟨by have:=HK1.out;omega⟩,by repeat (first|exact Drawn0.refl _|apply Drawn0.step)⟩
     ·rw [if_neg c5] at H
      exact absurd H (by simp)
    ·rw [if_neg c4] at H
     exact absurd H (by simp)
   ·rw [if_neg c3] at H
    have c3b0:decide (x8_1 < (l0.length:Int))=false:=decide_eq_false c3;clear c3
    obtain rfl:=Option.some.inj H
    go_wp2;go_ret
    exact ⟨by first|rfl|(simp;done)|(simp [*];done),by repeat (first|exact Drawn0.refl _|apply Drawn0.step)⟩


/-! ### sCon: function 72 -/
def sCon.f (k:Nat) (l0:List ByteArray) (a1:ByteArray):Option (Bool):=(sIdx.f k l0 a1).bind fun t175=>(some (decide (t175≥0)))
theorem sCon.mono:∀ a0 a1 k,LeO (sCon.f k a0 a1) (sCon.f (k+1) a0 a1):=by
 intro a0 a1 k
 unfold sCon.f
 repeat' first
   |(with_reducible exact sIdx.mono _ _ _)
   |(with_reducible exact LeO.refl _)
   |(with_reducible exact LeO.none _)
   |(with_reducible refine LeO.ite ?_ ?_)
   |(with_reducible refine LeO.bind ?_ (fun _=>?_))
   |exact sIdx.mono _ _ _
   |exact LeO.none _
   |refine LeO.ite ?_ ?_
   |refine LeO.bind ?_ (fun _=>?_)
set_option maxHeartbeats 8000000 in
set_option maxRecDepth 100000 in
theorem sCon.calls (k:Nat) (A0:Option Addr) (c0:Nat) (l0:List ByteArray) (a1:ByteArray) (r:Bool) (w:World) (hr0:Kd.C Kd.string w A0 l0.length l0) (hc0:l0.length≤c0) (h:sCon.f k l0 a1=some r) :
  Calls Try.prog 72 #[.slice A0 l0.length c0,.string a1] w fun e w'=>e=.returned (.bool r)∧Drawn0 w w':=by
 have HR0:=A0_.mk hr0;have HC0:=A0_.mk hc0;clear hr0 hc0;have H:((sIdx.f k l0 a1).bind fun t175=>(some (decide (t175≥0))))=some r:=h;clear h;replace H:=Option.bind_eq_some_iff.mp H;obtain ⟨t175,A30,H⟩:=H
 replace H:(some (decide (t175≥0)))=some r:=H
 have A3:=A0_.mk A30;clear A30
 obtain rfl:=Option.some.inj H
 go_enter Try.func72,Try.ntmps72
 go_wp2_with (first|((with_reducible refine gtC (f:=63) rfl ?_);refine goesL_ (some 7) rfl rfl Try.func63 (by kernel_rfl) rfl #[.slice A0 l0.length c0,.string a1] rfl (by (try simp only [List.map_toArray,List.map_cons,List.map_nil]);first|done|rfl|(simp only [List.length_drop,List.length_take];rfl)) ?_;(with_reducible refine (sIdx.calls k _ _ l0 a1 t175 _ ?side1 ?side2 A3.out).mono ?_);(case side1=>repeat (first|exact HR0.out|(with_reducible refine Kd.C_alloc ?_ _)|(with_reducible refine Kd.C_drewN ?_ _)|(with_reducible refine Kd.C_drew ?_)));(case side2=>exact HC0.out);rintro e w' ⟨rfl,⟨nd,rfl⟩⟩;refine ⟨_,rfl,?_⟩))
 go_ret;exact ⟨by first|rfl|(simp;done)|(simp [*];done),by repeat (first|exact Drawn0.refl _|apply Drawn0.step)⟩


/-! ### impl_Shape: function 73 -/
def impl_Shape.f (l0:List (S75)):Option ((List (S75))):=(some (([]:List (S75)):List (S75))).bind fun y101=>(if y101.length+l0.length < 4398046511104 then (some (y101++l0)) else (none))
set_option maxHeartbeats 8000000 in
set_option maxRecDepth 100000 in
theorem impl_Shape.calls (A0:Option Addr) (c0:Nat) (l0:List (S75)) (r:List (S75)) (w:World) (hr0:Kd.C k75 w A0 l0.length l0) (hc0:l0.length≤c0) (h:impl_Shape.f l0=some r) :
  Calls Try.prog 73 #[.slice A0 l0.length c0] w fun e w'=>∃ v0_:Value,e=.returned (v0_)∧Kd.R k75 75 w' w.heap.size (fun _=>True) v0_ r∧Below w.heap.size w w':=by
 have HR0:=A0_.mk hr0;have HC0:=A0_.mk hc0;clear hr0 hc0;have HB:=A0_.mk (Below.refl w.heap.size w);have H:((some (([]:List (S75)):List (S75))).bind fun y101=>(if y101.length+l0.length < 4398046511104 then (some (y101++l0)) else (none)))=some r:=h;clear h;obtain ⟨y101,hy101⟩:∃ y_:List (S75),y_=(([]:List (S75))):=⟨_,rfl⟩
 replace H:(if y101.length+l0.length < 4398046511104 then (some (y101++l0)) else (none))=some r:=by first|(rw [hy101];with_reducible exact H)|(have H2_:=(Option.bind_some _ _).symm.trans H;rw [hy101];with_reducible exact H2_)|(have H2_:=(Option.bind_some _ _).symm.trans H;with_reducible exact H2_)|with_reducible exact H|(rw [hy101];exact H)|exact H
 have Ny101:=A0_.mk hy101;clear hy101
 by_cases c2:y101.length+l0.length < 4398046511104
 ·rw [if_pos c2] at H
  have LMc2:=A0_.mk c2;clear c2;obtain ⟨y104,hy104⟩:∃ y_:List (S75),y_=(y101++l0):=⟨_,rfl⟩
  replace H:(some y104)=some r:=by first|(rw [hy104];with_reducible exact H)|(have H2_:=(Option.bind_some _ _).symm.trans H;rw [hy104];with_reducible exact H2_)|(have H2_:=(Option.bind_some _ _).symm.trans H;with_reducible exact H2_)|with_reducible exact H|(rw [hy104];exact H)|exact H
  have Ny104:=A0_.mk hy104;clear hy104
  obtain rfl:=Option.some.inj H
  have q34:∀ (w:World) (a:Option Addr) (n c n' c':Nat),(binOp .eql 34 (.slice a n c) (.slice none n' c')).run Try.prog w=.ok (.bool a.isNone) w:=fun w a n c n' c'=>Lib.run_eql_slice_nil w _ _ a n c n' c' Try.underlying34
  cases A0 with
  |none=>
   have hl:l0=[]:=by
    rcases l0 with _|⟨x_,xs_⟩
    ·rfl
    ·obtain ⟨ad_,e_,_⟩:=HR0.out.2.2 (by simp)
     cases e_
   have hy:y104=[]:=by rw [Ny104.out,Ny101.out,hl];rfl
   rw [hy]
   go_enter Try.func73,Try.ntmps73
   go_wp2;go_ret
   exact ⟨_,rfl,Kd.R_nil _ _ _ _ _,HB.out⟩
  |some ad0=>
   go_enter Try.func73,Try.ntmps73
   go_wp2_with (first|((with_reducible refine gtD (N:=5) rfl ?_);refine Kd.R_lit k75 _ 75 ?hg (N:=5) ?hd (xs:=([]:List (S75))) (inner:=[]) (ok:=fun _=>True) (okp:=fun _=>True) ?hr ?hp (fun _ hk=>hk) trivial (Below.refl _ _) (Nat.le_refl _) (by simp) ?_;(case hd=>rfl);(case hg=>rfl);(case hr=>first|(go_simp;done)|(go_simp;rfl));(case hp=>exact (Reps.none _ _));intro v102 w3 ho4 hb hg_ hnew_;clear hg_ hnew_;(first|rw [← Ny101.out] at ho4|(simp only [Int.reduceToNat] at ho4;rw [← Ny101.out] at ho4));have n0_:=A0_.mk (Kd.R_lower ho4 (bsz (by repeat (first|(with_reducible first|exact HB.out|apply bal|apply pdN|apply bdr)|exact HB.out))));have n1_:=A0_.mk (bsp (by repeat (first|(with_reducible first|exact HB.out|apply bal|apply pdN|apply bdr)|exact HB.out)) hb);clear HB;have HO103:=n0_;have HB:=n1_;clear n0_ n1_;clear hb ho4)|((with_reducible refine gate_builtin (b:=.append) (xs:=#[.tmp 5,.tmp 6]) rfl ?_);at_builtin;refine Kd.R_append_rows k75 (w0:=w) w.heap.size rfl (.tmp 5) (.tmp 6) 34 75 (.agg #[(.int .i64 0),(.string ⟨#[]⟩),(.int .i64 0)]) 32 rfl Try.underlying34 info75 rfl (by decide) (by omega) v102 y101 l0 _ _ _ (fun _=>True) (fun _=>False) rfl rfl ?aO ?aR (fun _ _ h=>h) (fun _ h=>h.elim) ?aF ?aB ?aS ?aL ?_;(case aR=>repeat (first|exact (Kd.C_below HR0.out HB.out)|(with_reducible refine Kd.C_alloc ?_ _)|(with_reducible refine Kd.C_drewN ?_ _)|(with_reducible refine Kd.C_drew ?_)));(case aB=>exact (by repeat (first|(with_reducible first|exact HB.out|apply bal|apply pdN|apply bdr)|exact HB.out)));(case aF=>exact (fun _ _=>trivial));(case aO=>exact (by (with_reducible repeat (first|apply Kd.R_alloc|apply Kd.R_drewN|apply Kd.R_drew));exact HO103.out));(case aS=>exact (bsz (by repeat (first|(with_reducible first|exact HB.out|apply bal|apply pdN|apply bdr)|exact HB.out))));(case aL=>have:=LMc2.out;omega);intro v105 w5 ho hb hg hat;rw [← Ny104.out] at ho;have n0_:=A0_.mk (hb);have n1_:=A0_.mk (ho);clear HB;clear HO103;have HB:=n0_;have HO106:=n1_;clear n0_ n1_;clear ho hb hg hat))
   go_ret;exact ⟨_,by first|rfl|(simp [errW_none,errW_some] <;> rfl)|(simp [*,errW_none,errW_some] <;> rfl),by (with_reducible repeat (first|apply Kd.R_alloc|apply Kd.R_drewN|apply Kd.R_drew));exact HO106.out,by repeat (first|(with_reducible first|exact HB.out|apply bal|apply pdN|apply bdr)|exact HB.out)⟩
 ·rw [if_neg c2] at H
  exact absurd H (by simp)

end Go.Proofs.Ytclploookcjcbaa.PFr
