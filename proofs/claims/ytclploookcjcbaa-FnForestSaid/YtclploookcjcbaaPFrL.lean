/- Proved: each Go function that is named below comes to the answers of the Lean function printed for it. Printed by a changed copy of the kit's print program (wip/mkpk.py), for this claim. -/
import Derived.Test.YtclploookcjcbaaPFrx0
import Derived.Test.YtclploookcjcbaaPFrG
import Derived.Test.YtclploookcjcbaaPFrS
import Derived.Test.YtclploookcjcbaaPFrF
import Derived.Test.YtclploookcjcbaaPFrE
import Derived.Test.YtclploookcjcbaaPFrQ
namespace Go.Proofs.Ytclploookcjcbaa.PFr
open Go.RowKit Go.Proofs.YtclploookcjcbaaW.PrintWords Go.Proofs.YtclploookcjcbaaW.PrintLast Go.Proofs.YtclploookcjcbaaW.PrintMore
attribute [local go_sem] max2_int min2_int max_two min_two max_three min_three max_four min_four   -- for this text's walks alone
set_option linter.unusedVariables false
set_option linter.unusedSimpArgs false

/-! ### lFF: function 9 -/
mutual
def lFF.j0:Nat → Int → ByteArray → Bool → List (S75) → List (S75) → Int → Option (Bool)
 |0,_,_,_,_,_,_=>none
 |k+1,x4,x5,x47,x213000,x218000,x218001=>if x47=true then (none) else (if x218001 < 0 then (some true) else ((impl_Fields.f k x213000 x4).bind fun t226=>((impl_Fields.f k x218000 x218001).bind fun t229=>(if (t229.length:Int)=(wrap64 ((t226.length:Int)+1)) then (if 0≤(t226.length:Int) then (if (t226.length:Int) < (t229.length:Int) then (if (rdOf ByteArray.empty t229 (t226.length:Int)).toList=x5.toList then ((impl_FieldAt.f k x218000 x218001 x5).bind fun t233=>(if t233=(t226.length:Int) then ((iFO.f k x218000).bind fun t234=>(lFF.j1 k x4 x5 t226 t229 (t234 != 0) x218000 x218001)) else (lFF.j1 k x4 x5 t226 t229 true x218000 x218001))) else (lFF.j1 k x4 x5 t226 t229 true x218000 x218001)) else (none)) else (none)) else (lFF.j1 k x4 x5 t226 t229 true x218000 x218001)))))
def lFF.j1:Nat → Int → ByteArray → List ByteArray → List ByteArray → Bool → List (S75) → Int → Option (Bool)
 |0,_,_,_,_,_,_,_=>none
 |k+1,x4,x5,x8,x9,x90,x218000,x218001=>if x90=true then (none) else (lFF.l0 k x4 x5 x8 x9 (x8.length:Int) 0 x218000 x218001)
def lFF.l0:Nat → Int → ByteArray → List ByteArray → List ByteArray → Int → Int → List (S75) → Int → Option (Bool)
 |0,_,_,_,_,_,_,_,_=>none
 |k+1,x4,x5,x8,x9,x92,x93,x218000,x218001=>if x93 < x92 then (if 0≤x93 then (if x93 < (x8.length:Int) then (if x93 < (x9.length:Int) then (if (rdOf ByteArray.empty x8 x93).toList=(rdOf ByteArray.empty x9 x93).toList then ((impl_FieldAt.f k x218000 x218001 (rdOf ByteArray.empty x8 x93)).bind fun t238=>(if t238=x93 then (lFF.l0 k x4 x5 x8 x9 x92 (wrap64 (x93+1)) x218000 x218001) else (none))) else (none)) else (none)) else (none)) else (none)) else ((impl_Grow.f k x218000 x4 x5).bind fun bt239=>(some (bt239.2==x218001)))
end
def lFF.f (k:Nat) (l0:List Int):Option (Bool):=if (l0.length:Int) > 1048576 then (some true) else ((spec_DrawGrow.f k l0).bind fun bt207=>((impl_Grow.f k bt207.1 bt207.2.1 bt207.2.2).bind fun bt213=>((spec_Grow.f k bt207.1 bt207.2.1 bt207.2.2).bind fun bt218=>((iFO.f k bt207.1).bind fun t223=>((sFO.f k bt207.1).bind fun t224=>(if t223=t224 then (if bt213.2=bt218.2 then ((laws_wForest.f k bt213.1 bt218.1).bind fun t225=>(lFF.j0 k bt207.2.1 bt207.2.2 (!t225) bt207.1 bt213.1 bt213.2)) else (lFF.j0 k bt207.2.1 bt207.2.2 true bt207.1 bt213.1 bt213.2)) else (lFF.j0 k bt207.2.1 bt207.2.2 true bt207.1 bt213.1 bt213.2)))))))
theorem lFF.mono_l:∀ k,(∀ y0 y1 y2 y3 y4 y5,LeO (lFF.j0 k y0 y1 y2 y3 y4 y5) (lFF.j0 (k+1) y0 y1 y2 y3 y4 y5))∧(∀ y0 y1 y2 y3 y4 y5 y6,LeO (lFF.j1 k y0 y1 y2 y3 y4 y5 y6) (lFF.j1 (k+1) y0 y1 y2 y3 y4 y5 y6))∧(∀ y0 y1 y2 y3 y4 y5 y6 y7,LeO (lFF.l0 k y0 y1 y2 y3 y4 y5 y6 y7) (lFF.l0 (k+1) y0 y1 y2 y3 y4 y5 y6 y7))
 |0=>⟨fun _ _ _ _ _ _ r h=>by simp [lFF.j0] at h,fun _ _ _ _ _ _ _ r h=>by simp [lFF.j1] at h,fun _ _ _ _ _ _ _ _ r h=>by simp [lFF.l0] at h⟩
 |k+1=>by
  obtain ⟨ih0,ih1,ih2⟩:=lFF.mono_l k;refine ⟨?_,?_,?_⟩
  ·intro y0 y1 y2 y3 y4 y5
   unfold lFF.j0
   repeat' first
   |(with_reducible exact ih0 _ _ _ _ _ _)
   |(with_reducible exact ih1 _ _ _ _ _ _ _)
   |(with_reducible exact ih2 _ _ _ _ _ _ _ _)
   |(with_reducible exact impl_FieldAt.mono _ _ _ _)
   |(with_reducible exact impl_Fields.mono _ _ _)
   |(with_reducible exact iFO.mono _ _)
   |(with_reducible exact impl_Grow.mono _ _ _ _)
   |(with_reducible exact laws_wForest.mono _ _ _)
   |(with_reducible exact spec_DrawGrow.mono _ _)
   |(with_reducible exact sFO.mono _ _)
   |(with_reducible exact spec_Grow.mono _ _ _ _)
   |(with_reducible exact LeO.refl _)
   |(with_reducible exact LeO.none _)
   |(with_reducible refine LeO.ite ?_ ?_)
   |(with_reducible refine LeO.bind ?_ (fun _=>?_))
   |exact ih0 _ _ _ _ _ _
   |exact ih1 _ _ _ _ _ _ _
   |exact ih2 _ _ _ _ _ _ _ _
   |exact impl_FieldAt.mono _ _ _ _
   |exact impl_Fields.mono _ _ _
   |exact iFO.mono _ _
   |exact impl_Grow.mono _ _ _ _
   |exact laws_wForest.mono _ _ _
   |exact spec_DrawGrow.mono _ _
   |exact sFO.mono _ _
   |exact spec_Grow.mono _ _ _ _
   |exact LeO.none _
   |refine LeO.ite ?_ ?_
   |refine LeO.bind ?_ (fun _=>?_)
  ·intro y0 y1 y2 y3 y4 y5 y6
   unfold lFF.j1
   repeat' first
   |(with_reducible exact ih0 _ _ _ _ _ _)
   |(with_reducible exact ih1 _ _ _ _ _ _ _)
   |(with_reducible exact ih2 _ _ _ _ _ _ _ _)
   |(with_reducible exact impl_FieldAt.mono _ _ _ _)
   |(with_reducible exact impl_Fields.mono _ _ _)
   |(with_reducible exact iFO.mono _ _)
   |(with_reducible exact impl_Grow.mono _ _ _ _)
   |(with_reducible exact laws_wForest.mono _ _ _)
   |(with_reducible exact spec_DrawGrow.mono _ _)
   |(with_reducible exact sFO.mono _ _)
   |(with_reducible exact spec_Grow.mono _ _ _ _)
   |(with_reducible exact LeO.refl _)
   |(with_reducible exact LeO.none _)
   |(with_reducible refine LeO.ite ?_ ?_)
   |(with_reducible refine LeO.bind ?_ (fun _=>?_))
   |exact ih0 _ _ _ _ _ _
   |exact ih1 _ _ _ _ _ _ _
   |exact ih2 _ _ _ _ _ _ _ _
   |exact impl_FieldAt.mono _ _ _ _
   |exact impl_Fields.mono _ _ _
   |exact iFO.mono _ _
   |exact impl_Grow.mono _ _ _ _
   |exact laws_wForest.mono _ _ _
   |exact spec_DrawGrow.mono _ _
   |exact sFO.mono _ _
   |exact spec_Grow.mono _ _ _ _
   |exact LeO.none _
   |refine LeO.ite ?_ ?_
   |refine LeO.bind ?_ (fun _=>?_)
  ·intro y0 y1 y2 y3 y4 y5 y6 y7
   unfold lFF.l0
   repeat' first
   |(with_reducible exact ih0 _ _ _ _ _ _)
   |(with_reducible exact ih1 _ _ _ _ _ _ _)
   |(with_reducible exact ih2 _ _ _ _ _ _ _ _)
   |(with_reducible exact impl_FieldAt.mono _ _ _ _)
   |(with_reducible exact impl_Fields.mono _ _ _)
   |(with_reducible exact iFO.mono _ _)
   |(with_reducible exact impl_Grow.mono _ _ _ _)
   |(with_reducible exact laws_wForest.mono _ _ _)
   |(with_reducible exact spec_DrawGrow.mono _ _)
   |(with_reducible exact sFO.mono _ _)
   |(with_reducible exact spec_Grow.mono _ _ _ _)
   |(with_reducible exact LeO.refl _)
   |(with_reducible exact LeO.none _)
   |(with_reducible refine LeO.ite ?_ ?_)
   |(with_reducible refine LeO.bind ?_ (fun _=>?_))
   |exact ih0 _ _ _ _ _ _
   |exact ih1 _ _ _ _ _ _ _
   |exact ih2 _ _ _ _ _ _ _ _
   |exact impl_FieldAt.mono _ _ _ _
   |exact impl_Fields.mono _ _ _
   |exact iFO.mono _ _
   |exact impl_Grow.mono _ _ _ _
   |exact laws_wForest.mono _ _ _
   |exact spec_DrawGrow.mono _ _
   |exact sFO.mono _ _
   |exact spec_Grow.mono _ _ _ _
   |exact LeO.none _
   |refine LeO.ite ?_ ?_
   |refine LeO.bind ?_ (fun _=>?_)
theorem lFF.mono:∀ a0 k,LeO (lFF.f k a0) (lFF.f (k+1) a0):=by
 intro a0 k
 obtain ⟨ih0,ih1,ih2⟩:=lFF.mono_l k;unfold lFF.f
 repeat' first
   |(with_reducible exact ih0 _ _ _ _ _ _)
   |(with_reducible exact ih1 _ _ _ _ _ _ _)
   |(with_reducible exact ih2 _ _ _ _ _ _ _ _)
   |(with_reducible exact impl_FieldAt.mono _ _ _ _)
   |(with_reducible exact impl_Fields.mono _ _ _)
   |(with_reducible exact iFO.mono _ _)
   |(with_reducible exact impl_Grow.mono _ _ _ _)
   |(with_reducible exact laws_wForest.mono _ _ _)
   |(with_reducible exact spec_DrawGrow.mono _ _)
   |(with_reducible exact sFO.mono _ _)
   |(with_reducible exact spec_Grow.mono _ _ _ _)
   |(with_reducible exact LeO.refl _)
   |(with_reducible exact LeO.none _)
   |(with_reducible refine LeO.ite ?_ ?_)
   |(with_reducible refine LeO.bind ?_ (fun _=>?_))
   |exact ih0 _ _ _ _ _ _
   |exact ih1 _ _ _ _ _ _ _
   |exact ih2 _ _ _ _ _ _ _ _
   |exact impl_FieldAt.mono _ _ _ _
   |exact impl_Fields.mono _ _ _
   |exact iFO.mono _ _
   |exact impl_Grow.mono _ _ _ _
   |exact laws_wForest.mono _ _ _
   |exact spec_DrawGrow.mono _ _
   |exact sFO.mono _ _
   |exact spec_Grow.mono _ _ _ _
   |exact LeO.none _
   |refine LeO.ite ?_ ?_
   |refine LeO.bind ?_ (fun _=>?_)
def lFF.T6:Bool × List (List Nat × List Nat):=(true,[([],[]),([0],[0]),([],[]),([2,1],[2]),([1,3],[1,3]),([4,3],[4]),([5],[5]),([6,5],[5,6]),([5],[5]),([8,5],[5,8]),([7,9,5],[5,7,9]),([5,10],[5,10]),([11,5],[11]),([12],[12]),([13,12],[12,13]),([12],[12]),([15,12],[12,15]),([14,16,12,12],[12,14,16]),([17,12],[12,17]),([12,18],[12,18])])
def lFF.B6:List Nat:=[0,1,0,7,15,31,63,127,63,319,1023,2047,4095,8191,16383,8191,40959,131071,262143,524287]
theorem lFF.tab6:rtab .any (opsOf Try.f9 6)=lFF.T6:=by kernel_rfl
theorem lFF.bits6:waitsOk lFF.T6.2 lFF.B6=true:=by kernel_rfl
def lFF.T17:Bool × List (List Nat × List Nat):=(true,[([],[]),([],[]),([0,1],[0,1]),([2],[2]),([],[]),([],[]),([4,5],[4,5]),([6],[6]),([3,7],[3,7]),([8],[8]),([9],[9]),([10,9],[9,10]),([9],[9]),([12,9],[9,12]),([9],[9]),([9],[9]),([14,15,9],[9,14,15]),([16,9],[9,16]),([11,13,17,9,9],[9,11,13,17]),([9],[9]),([18,19,9],[9,18,19]),([9,20],[9,20])])
def lFF.B17:List Nat:=[0,0,3,7,0,0,48,112,255,511,1023,2047,1023,5119,1023,1023,50175,115711,262143,1023,1048575,2097151]
theorem lFF.tab17:rtab .any (opsOf Try.f9 17)=lFF.T17:=by kernel_rfl
theorem lFF.bits17:waitsOk lFF.T17.2 lFF.B17=true:=by kernel_rfl
def lFF.T20:Bool × List (List Nat × List Nat):=(true,[([],[]),([0],[0]),([],[]),([],[]),([1,2,3],[1,2,3]),([4],[4]),([],[]),([6],[6]),([5,7],[5,7]),([8,4,0,1,2,3,4,5,6,7,8],[8])])
def lFF.B20:List Nat:=[0,1,0,0,15,31,0,64,255,511]
theorem lFF.tab20:rtab .any (opsOf Try.f9 20)=lFF.T20:=by kernel_rfl
theorem lFF.bits20:waitsOk lFF.T20.2 lFF.B20=true:=by kernel_rfl
set_option maxHeartbeats 8000000 in
set_option maxRecDepth 100000 in
theorem lFF.calls (k:Nat) (A0:Option Addr) (c0:Nat) (l0:List Int) (r:Bool) (w:World) (hr0:Kd.C (Kd.int .u8) w A0 l0.length l0) (hc0:l0.length≤c0) (h:lFF.f k l0=some r) :
  Calls Try.prog 9 #[.slice A0 l0.length c0] w fun e w'=>e=.returned (.bool r)∧Below w.heap.size w w':=by
 have hu36:=Try.underlying36;have hu64:=Try.underlying64;have HR0:=A0_.mk hr0;have HC0:=A0_.mk hc0;clear hr0 hc0;have HB:=A0_.mk (Below.refl w.heap.size w);have H:(if (l0.length:Int) > 1048576 then (some true) else ((spec_DrawGrow.f k l0).bind fun bt207=>((impl_Grow.f k bt207.1 bt207.2.1 bt207.2.2).bind fun bt213=>((spec_Grow.f k bt207.1 bt207.2.1 bt207.2.2).bind fun bt218=>((iFO.f k bt207.1).bind fun t223=>((sFO.f k bt207.1).bind fun t224=>(if t223=t224 then (if bt213.2=bt218.2 then ((laws_wForest.f k bt213.1 bt218.1).bind fun t225=>(lFF.j0 k bt207.2.1 bt207.2.2 (!t225) bt207.1 bt213.1 bt213.2)) else (lFF.j0 k bt207.2.1 bt207.2.2 true bt207.1 bt213.1 bt213.2)) else (lFF.j0 k bt207.2.1 bt207.2.2 true bt207.1 bt213.1 bt213.2))))))))=some r:=h;clear h
 by_cases c2:(l0.length:Int) > 1048576
 ·rw [if_pos c2] at H
  have c2b0:decide (1048576 < (l0.length:Int))=true:=decide_eq_true c2;have c2b1:decide (1048576 < l0.length)=true:=decide_eq_true (by omega);clear c2
  obtain rfl:=Option.some.inj H
  go_enter Try.func9,Try.ntmps9
  go_wp2;go_ret
  exact ⟨by first|rfl|(simp [errW_none,errW_some] <;> rfl)|(simp [*,errW_none,errW_some] <;> rfl),by repeat (first|(with_reducible first|exact HB.out|apply bal|apply pdN|apply bdr)|exact HB.out)⟩
 ·rw [if_neg c2] at H
  have c2b0:decide (1048576 < (l0.length:Int))=false:=decide_eq_false c2;have c2b1:decide (1048576 < l0.length)=false:=decide_eq_false (by omega);clear c2;replace H:=Option.bind_eq_some_iff.mp H;obtain ⟨⟨t207,t210,t211⟩,A30,H⟩:=H
  replace H:((impl_Grow.f k t207 t210 t211).bind fun bt213=>((spec_Grow.f k t207 t210 t211).bind fun bt218=>((iFO.f k t207).bind fun t223=>((sFO.f k t207).bind fun t224=>(if t223=t224 then (if bt213.2=bt218.2 then ((laws_wForest.f k bt213.1 bt218.1).bind fun t225=>(lFF.j0 k t210 t211 (!t225) t207 bt213.1 bt213.2)) else (lFF.j0 k t210 t211 true t207 bt213.1 bt213.2)) else (lFF.j0 k t210 t211 true t207 bt213.1 bt213.2))))))=some r:=H
  have A3:=A0_.mk A30;clear A30;replace H:=Option.bind_eq_some_iff.mp H;obtain ⟨⟨t213,t216⟩,A40,H⟩:=H
  replace H:((spec_Grow.f k t207 t210 t211).bind fun bt218=>((iFO.f k t207).bind fun t223=>((sFO.f k t207).bind fun t224=>(if t223=t224 then (if t216=bt218.2 then ((laws_wForest.f k t213 bt218.1).bind fun t225=>(lFF.j0 k t210 t211 (!t225) t207 t213 t216)) else (lFF.j0 k t210 t211 true t207 t213 t216)) else (lFF.j0 k t210 t211 true t207 t213 t216)))))=some r:=H
  have A4:=A0_.mk A40;clear A40;replace H:=Option.bind_eq_some_iff.mp H;obtain ⟨⟨t218,t221⟩,A50,H⟩:=H
  replace H:((iFO.f k t207).bind fun t223=>((sFO.f k t207).bind fun t224=>(if t223=t224 then (if t216=t221 then ((laws_wForest.f k t213 t218).bind fun t225=>(lFF.j0 k t210 t211 (!t225) t207 t213 t216)) else (lFF.j0 k t210 t211 true t207 t213 t216)) else (lFF.j0 k t210 t211 true t207 t213 t216))))=some r:=H
  have A5:=A0_.mk A50;clear A50;have HC6:=A0_.mk H;clear H
  go_enter Try.func9,Try.ntmps9
  go_upto_region 6 with (first|((with_reducible refine gtC (f:=34) rfl ?_);refine goesL_ (some 16) rfl rfl Try.func34 (by kernel_rfl) rfl #[.slice A0 l0.length c0] rfl (by (try simp only [List.map_toArray,List.map_cons,List.map_nil]);first|done|rfl|(simp only [List.length_drop,List.length_take];rfl)) ?_;(with_reducible refine (spec_DrawGrow.calls k _ _ l0 t207 t210 t211 _ ?side1 ?side2 A3.out).mono ?_);(case side1=>repeat (first|exact HR0.out|(with_reducible refine Kd.C_alloc ?_ _)|(with_reducible refine Kd.C_drewN ?_ _)|(with_reducible refine Kd.C_drew ?_)));(case side2=>exact HC0.out);rintro e w7 ⟨v208,rfl,ho0,hb⟩;refine ⟨_,rfl,?_⟩;have n0_:=A0_.mk (Kd.R_lower ho0 (bsz (by repeat (first|(with_reducible first|exact HB.out|apply bal|apply pdN|apply bdr)|exact HB.out))));have n1_:=A0_.mk (bsp (by repeat (first|(with_reducible first|exact HB.out|apply bal|apply pdN|apply bdr)|exact HB.out)) hb);clear HB;have HO209:=n0_;have HB:=n1_;clear n0_ n1_;(try clear hb);(try clear hb2);(try clear hk);(try clear hi);(try clear ho0))|((with_reducible refine gtD (N:=3) rfl ?_);(try (refine gtG (by rfl) ?_;dsimp only));refine bxE ?hg (N:=3) ?hd (cs:=#[.slice none 0 0]) (t:=36) ?hr ?_;(case hd=>rfl);(case hg=>rfl);(case hr=>first|(go_simp;done)|(go_simp;rfl));intro gb212 hg w8 hbox hb;have n0_:=A0_.mk (Kd.R_below (by (with_reducible repeat (first|apply Kd.R_alloc|apply Kd.R_drewN|apply Kd.R_drew));exact HO209.out) hb);have n1_:=A0_.mk (bsp (by repeat (first|(with_reducible first|exact HB.out|apply bal|apply pdN|apply bdr)|exact HB.out)) hb);have n2_:=A0_.mk (hbox);have n3_:=A0_.mk ((by rw [hg];exact (bsz (by repeat (first|(with_reducible first|exact HB.out|apply bal|apply pdN|apply bdr)|exact HB.out))):w.heap.size≤gb212));have n4_:=A0_.mk ((by rw [hg];exact (bsz (by repeat (first|(with_reducible first|exact HB.out|apply bal|apply pdN|apply bdr)|exact HB.out))):w.heap.size≤gb212));clear HO209;clear HB;have HO209:=n0_;have HB:=n1_;have BK212:=n2_;have GW212:=n3_;have GE212:=n4_;clear n0_ n1_ n2_ n3_ n4_;clear hb hbox hg;obtain ⟨Ao9,co9,eo9⟩:=Kd.R_slice HO209.out;subst eo9;have hcz10_0:w8.cell? ⟨gb212,0,none⟩=some (.slice none 0 0):=(bkC BK212.out 0).trans rfl;have hfz10_0:=bkF BK212.out 0)|((with_reducible refine gtC (f:=35) rfl ?_);refine goesL_ (some 23) rfl rfl Try.func35 (by kernel_rfl) rfl #[.agg #[.slice Ao9 t207.length co9],.int .i64 t210,.string t211] rfl (by (try simp only [List.map_toArray,List.map_cons,List.map_nil]);first|done|rfl|(simp only [List.length_drop,List.length_take];rfl)) ?_;(with_reducible refine (impl_Grow.calls k _ _ t207 t210 t211 t213 t216 _ ?side1 ?side2 A4.out).mono ?_);(case side1=>refine (Kd.R_reads' (e:=75) (base:=w.heap.size) (ok:=fun k_=>True) (n:=t207.length) (c:=co9) ?_).2.2;exact (by (with_reducible repeat (first|apply Kd.R_alloc|apply Kd.R_drewN|apply Kd.R_drew));exact (Kd.R_mono (Kd.R_far (p:=⟨gb212,0,none⟩) (Kd.R_types HO209.out BK212.out (by decide)) (fun _ hk=>hk.2) (.slice Ao9 t207.length co9)) (fun _ h_=>h_.1))));(case side2=>exact (Kd.R_reads' HO209.out).2.1);rintro e w11 ⟨v214,rfl,ho0,hb⟩;refine ⟨_,rfl,?_⟩;have n0_:=A0_.mk (Kd.R_elder' (by (with_reducible repeat (first|apply Kd.R_alloc|apply Kd.R_drewN|apply Kd.R_drew));exact (Kd.R_mono (Kd.R_far (p:=⟨gb212,0,none⟩) (Kd.R_types HO209.out BK212.out (by decide)) (fun _ hk=>hk.2) (.slice Ao9 t207.length co9)) (fun _ h_=>h_.1))) (Kd.R_base ho0) hb);have n1_:=A0_.mk (Kd.R_lower (Kd.R_new' ho0 (Kd.R_lt (by (with_reducible repeat (first|apply Kd.R_alloc|apply Kd.R_drewN|apply Kd.R_drew));exact (Kd.R_mono (Kd.R_far (p:=⟨gb212,0,none⟩) (Kd.R_types HO209.out BK212.out (by decide)) (fun _ hk=>hk.2) (.slice Ao9 t207.length co9)) (fun _ h_=>h_.1))))) (bsz (by repeat (first|(with_reducible first|exact HB.out|apply bal|apply pdN|apply bdr|refine bst ?_ GE212.out)|exact HB.out))));have n2_:=A0_.mk (bkB (g:=gb212) (o:=.cells #[.slice Ao9 t207.length co9] 36 (0,0)) (by (with_reducible repeat first|apply bkN|apply bkD|apply bkA);refine bkP (cs:=#[.slice none 0 0]) ?_ 0 _ rfl;(with_reducible repeat first|apply bkN|apply bkD|apply bkA);exact BK212.out) hb);have n3_:=A0_.mk (bsp (by repeat (first|(with_reducible first|exact HB.out|apply bal|apply pdN|apply bdr|refine bst ?_ GE212.out)|exact HB.out)) hb);clear HO209;clear BK212;clear HB;have HO209:=n0_;have HO215:=n1_;have BK212:=n2_;have HB:=n3_;clear n0_ n1_ n2_ n3_;(try clear hb);(try clear hb2);(try clear hk);(try clear hi);(try clear ho0))|((with_reducible refine gtD (N:=6) rfl ?_);(try (refine gtG (by rfl) ?_;dsimp only));refine bxE ?hg (N:=6) ?hd (cs:=#[.slice none 0 0,.int .i64 0]) (t:=64) ?hr ?_;(case hd=>rfl);(case hg=>rfl);(case hr=>first|(go_simp;done)|(go_simp;rfl));intro gb217 hg w12 hbox hb;have n0_:=A0_.mk (Kd.R_below (by (with_reducible repeat (first|apply Kd.R_alloc|apply Kd.R_drewN|apply Kd.R_drew));exact HO209.out) hb);have n1_:=A0_.mk (Kd.R_below (by (with_reducible repeat (first|apply Kd.R_alloc|apply Kd.R_drewN|apply Kd.R_drew));exact HO215.out) hb);have n2_:=A0_.mk (bkB (g:=gb212) (o:=.cells #[.slice Ao9 t207.length co9] 36 (0,0)) (by (with_reducible repeat first|apply bkN|apply bkD|apply bkA);exact BK212.out) hb);have n3_:=A0_.mk (bsp (by repeat (first|(with_reducible first|exact HB.out|apply bal|apply pdN|apply bdr|refine bst ?_ GE212.out)|exact HB.out)) hb);have n4_:=A0_.mk (hbox);have n5_:=A0_.mk ((by rw [hg];exact (bsz (by repeat (first|(with_reducible first|exact HB.out|apply bal|apply pdN|apply bdr|refine bst ?_ GE212.out)|exact HB.out))):w.heap.size≤gb217));have n6_:=A0_.mk ((by rw [hg];exact (bsz (by repeat (first|(with_reducible first|exact HB.out|apply bal|apply pdN|apply bdr|refine bst ?_ GE212.out)|exact HB.out))):w.heap.size≤gb217));have n7_:=A0_.mk ((by rw [hg];exact Nat.ne_of_lt (blk_lt (g:=gb212) (o:=.cells #[.slice Ao9 t207.length co9] 36 (0,0)) (by (with_reducible repeat first|apply bkN|apply bkD|apply bkA);exact BK212.out)):gb212≠gb217));have n8_:=A0_.mk ((by rw [hg];exact Nat.ne_of_gt (blk_lt (g:=gb212) (o:=.cells #[.slice Ao9 t207.length co9] 36 (0,0)) (by (with_reducible repeat first|apply bkN|apply bkD|apply bkA);exact BK212.out)):gb217≠gb212));clear HO209;clear HO215;clear BK212;clear HB;have HO209:=n0_;have HO215:=n1_;have BK212:=n2_;have HB:=n3_;have BK217:=n4_;have GW217:=n5_;have GE217:=n6_;have NB212_217:=n7_;have NB217_212:=n8_;clear n0_ n1_ n2_ n3_ n4_ n5_ n6_ n7_ n8_;clear hb hbox hg;obtain ⟨Ao13,co13,eo13⟩:=Kd.R_slice HO215.out;subst eo13;have hnb14:=NB217_212.out;have hnc14:=NB212_217.out;have hcz15_0:w12.cell? ⟨gb217,0,none⟩=some (.slice none 0 0):=(bkC BK217.out 0).trans rfl;have hcz15_1:w12.cell? ⟨gb217,1,none⟩=some (.int .i64 0):=(bkC BK217.out 1).trans rfl;have hfz15_0:=bkF BK217.out 0;have hfz15_1:=bkF BK217.out 1;have hcz16_0:w12.cell? ⟨gb212,0,none⟩=some (.slice Ao9 t207.length co9):=(bkC BK212.out 0).trans rfl;have hfz16_0:=bkF BK212.out 0)|((with_reducible refine gtC (f:=36) rfl ?_);refine goesL_ (some 27) rfl rfl Try.func36 (by kernel_rfl) rfl #[.agg #[.slice Ao9 t207.length co9],.int .i64 t210,.string t211] rfl (by (try simp only [List.map_toArray,List.map_cons,List.map_nil]);first|done|rfl|(simp only [List.length_drop,List.length_take];rfl)) ?_;(with_reducible refine (spec_Grow.calls k _ _ t207 t210 t211 t218 t221 _ ?side1 ?side2 A5.out).mono ?_);(case side1=>refine (Kd.R_reads' (e:=75) (base:=w.heap.size) (ok:=fun k_=>(True∧some k_≠(.slice Ao13 t213.length co13:Value).ownBlock)) (n:=t207.length) (c:=co9) ?_).2.2;exact (by (with_reducible repeat (first|apply Kd.R_alloc|apply Kd.R_drewN|apply Kd.R_drew));exact (Kd.R_mono (Kd.R_far (p:=⟨gb217,1,none⟩) (Kd.R_far (p:=⟨gb217,0,none⟩) (Kd.R_types HO209.out BK217.out (by decide)) (fun _ hk=>hk.2) (.slice Ao13 t213.length co13)) (fun _ hk=>hk.2) (.int .i64 t216)) (fun _ h_=>h_.1))));(case side2=>exact (Kd.R_reads' HO209.out).2.1);rintro e w17 ⟨v219,rfl,ho0,hb⟩;refine ⟨_,rfl,?_⟩;have n0_:=A0_.mk (Kd.R_elder' (by (with_reducible repeat (first|apply Kd.R_alloc|apply Kd.R_drewN|apply Kd.R_drew));exact (Kd.R_mono (Kd.R_far (p:=⟨gb217,1,none⟩) (Kd.R_far (p:=⟨gb217,0,none⟩) (Kd.R_types HO209.out BK217.out (by decide)) (fun _ hk=>hk.2) (.slice Ao13 t213.length co13)) (fun _ hk=>hk.2) (.int .i64 t216)) (fun _ h_=>h_.1))) (Kd.R_base ho0) hb);have n1_:=A0_.mk (Kd.R_elder' (by (with_reducible repeat (first|apply Kd.R_alloc|apply Kd.R_drewN|apply Kd.R_drew));exact (Kd.R_mono (Kd.R_far (p:=⟨gb217,1,none⟩) (Kd.R_far (p:=⟨gb217,0,none⟩) (Kd.R_types HO215.out BK217.out (by decide)) (fun _ hk=>hk.2) (.slice Ao13 t213.length co13)) (fun _ hk=>hk.2) (.int .i64 t216)) (fun _ h_=>h_.1))) (Kd.R_base ho0) hb);have n2_:=A0_.mk (Kd.R_lower (Kd.R_new' (Kd.R_new' ho0 (Kd.R_lt (by (with_reducible repeat (first|apply Kd.R_alloc|apply Kd.R_drewN|apply Kd.R_drew));exact (Kd.R_mono (Kd.R_far (p:=⟨gb217,1,none⟩) (Kd.R_far (p:=⟨gb217,0,none⟩) (Kd.R_types HO209.out BK217.out (by decide)) (fun _ hk=>hk.2) (.slice Ao13 t213.length co13)) (fun _ hk=>hk.2) (.int .i64 t216)) (fun _ h_=>h_.1))))) (Kd.R_lt (by (with_reducible repeat (first|apply Kd.R_alloc|apply Kd.R_drewN|apply Kd.R_drew));exact (Kd.R_mono (Kd.R_far (p:=⟨gb217,1,none⟩) (Kd.R_far (p:=⟨gb217,0,none⟩) (Kd.R_types HO215.out BK217.out (by decide)) (fun _ hk=>hk.2) (.slice Ao13 t213.length co13)) (fun _ hk=>hk.2) (.int .i64 t216)) (fun _ h_=>h_.1))))) (bsz (by repeat (first|(with_reducible first|exact HB.out|apply bal|apply pdN|apply bdr|refine bst ?_ GE212.out|refine bst ?_ GE217.out)|exact HB.out))));have n3_:=A0_.mk (bkB (g:=gb212) (o:=.cells #[.slice Ao9 t207.length co9] 36 (0,0)) (by (with_reducible repeat first|apply bkN|apply bkD|apply bkA);refine bkf ?_ NB212_217.out _;(with_reducible repeat first|apply bkN|apply bkD|apply bkA);refine bkf ?_ NB212_217.out _;(with_reducible repeat first|apply bkN|apply bkD|apply bkA);exact BK212.out) hb);have n4_:=A0_.mk (bkB (g:=gb217) (o:=.cells #[.slice Ao13 t213.length co13,.int .i64 t216] 64 (0,0)) (by (with_reducible repeat first|apply bkN|apply bkD|apply bkA);refine bkP (cs:=#[.slice Ao13 t213.length co13,.int .i64 0]) ?_ 1 _ rfl;(with_reducible repeat first|apply bkN|apply bkD|apply bkA);refine bkP (cs:=#[.slice none 0 0,.int .i64 0]) ?_ 0 _ rfl;(with_reducible repeat first|apply bkN|apply bkD|apply bkA);exact BK217.out) hb);have n5_:=A0_.mk (bsp (by repeat (first|(with_reducible first|exact HB.out|apply bal|apply pdN|apply bdr|refine bst ?_ GE212.out|refine bst ?_ GE217.out)|exact HB.out)) hb);clear HO209;clear HO215;clear BK212;clear BK217;clear HB;have HO209:=n0_;have HO215:=n1_;have HO220:=n2_;have BK212:=n3_;have BK217:=n4_;have HB:=n5_;clear n0_ n1_ n2_ n3_ n4_ n5_;(try clear hb);(try clear hb2);(try clear hk);(try clear hi);(try clear ho0))|((with_reducible refine gtD (N:=7) rfl ?_);(try (refine gtG (by rfl) ?_;dsimp only));refine bxE ?hg (N:=7) ?hd (cs:=#[.slice none 0 0,.int .i64 0]) (t:=64) ?hr ?_;(case hd=>rfl);(case hg=>rfl);(case hr=>first|(go_simp;done)|(go_simp;rfl));intro gb222 hg w18 hbox hb;have n0_:=A0_.mk (Kd.R_below (by (with_reducible repeat (first|apply Kd.R_alloc|apply Kd.R_drewN|apply Kd.R_drew));exact HO209.out) hb);have n1_:=A0_.mk (Kd.R_below (by (with_reducible repeat (first|apply Kd.R_alloc|apply Kd.R_drewN|apply Kd.R_drew));exact HO215.out) hb);have n2_:=A0_.mk (Kd.R_below (by (with_reducible repeat (first|apply Kd.R_alloc|apply Kd.R_drewN|apply Kd.R_drew));exact HO220.out) hb);have n3_:=A0_.mk (bkB (g:=gb212) (o:=.cells #[.slice Ao9 t207.length co9] 36 (0,0)) (by (with_reducible repeat first|apply bkN|apply bkD|apply bkA);exact BK212.out) hb);have n4_:=A0_.mk (bkB (g:=gb217) (o:=.cells #[.slice Ao13 t213.length co13,.int .i64 t216] 64 (0,0)) (by (with_reducible repeat first|apply bkN|apply bkD|apply bkA);exact BK217.out) hb);have n5_:=A0_.mk (bsp (by repeat (first|(with_reducible first|exact HB.out|apply bal|apply pdN|apply bdr|refine bst ?_ GE212.out|refine bst ?_ GE217.out)|exact HB.out)) hb);have n6_:=A0_.mk (hbox);have n7_:=A0_.mk ((by rw [hg];exact (bsz (by repeat (first|(with_reducible first|exact HB.out|apply bal|apply pdN|apply bdr|refine bst ?_ GE212.out|refine bst ?_ GE217.out)|exact HB.out))):w.heap.size≤gb222));have n8_:=A0_.mk ((by rw [hg];exact (bsz (by repeat (first|(with_reducible first|exact HB.out|apply bal|apply pdN|apply bdr|refine bst ?_ GE212.out|refine bst ?_ GE217.out)|exact HB.out))):w.heap.size≤gb222));have n9_:=A0_.mk ((by rw [hg];exact Nat.ne_of_lt (blk_lt (g:=gb212) (o:=.cells #[.slice Ao9 t207.length co9] 36 (0,0)) (by (with_reducible repeat first|apply bkN|apply bkD|apply bkA);exact BK212.out)):gb212≠gb222));have n10_:=A0_.mk ((by rw [hg];exact Nat.ne_of_gt (blk_lt (g:=gb212) (o:=.cells #[.slice Ao9 t207.length co9] 36 (0,0)) (by (with_reducible repeat first|apply bkN|apply bkD|apply bkA);exact BK212.out)):gb222≠gb212));have n11_:=A0_.mk ((by rw [hg];exact Nat.ne_of_lt (blk_lt (g:=gb217) (o:=.cells #[.slice Ao13 t213.length co13,.int .i64 t216] 64 (0,0)) (by (with_reducible repeat first|apply bkN|apply bkD|apply bkA);exact BK217.out)):gb217≠gb222));have n12_:=A0_.mk ((by rw [hg];exact Nat.ne_of_gt (blk_lt (g:=gb217) (o:=.cells #[.slice Ao13 t213.length co13,.int .i64 t216] 64 (0,0)) (by (with_reducible repeat first|apply bkN|apply bkD|apply bkA);exact BK217.out)):gb222≠gb217));clear HO209;clear HO215;clear HO220;clear BK212;clear BK217;clear HB;have HO209:=n0_;have HO215:=n1_;have HO220:=n2_;have BK212:=n3_;have BK217:=n4_;have HB:=n5_;have BK222:=n6_;have GW222:=n7_;have GE222:=n8_;have NB212_222:=n9_;have NB222_212:=n10_;have NB217_222:=n11_;have NB222_217:=n12_;clear n0_ n1_ n2_ n3_ n4_ n5_ n6_ n7_ n8_ n9_ n10_ n11_ n12_;clear hb hbox hg;obtain ⟨Ao19,co19,eo19⟩:=Kd.R_slice HO220.out;subst eo19;have hnb20:=NB222_212.out;have hnc20:=NB212_222.out;have hnb21:=NB222_217.out;have hnc21:=NB217_222.out;have hcz22_0:w18.cell? ⟨gb222,0,none⟩=some (.slice none 0 0):=(bkC BK222.out 0).trans rfl;have hcz22_1:w18.cell? ⟨gb222,1,none⟩=some (.int .i64 0):=(bkC BK222.out 1).trans rfl;have hfz22_0:=bkF BK222.out 0;have hfz22_1:=bkF BK222.out 1))
  (try simp only [Act.put,List.setIfInBounds_toArray,List.set_cons_zero,List.set_cons_succ])
  go_cut [47] (fun v47 wc=>∃ (kq:Nat) (x47_5:Bool),v47=.bool x47_5∧A0_ (lFF.j0 kq t210 t211 x47_5 t207 t213 t216=some r)∧A0_ (kq≤k)∧A0_ (Kd.R k75 75 wc w.heap.size (fun k_=>some k_≠((.slice Ao13 t213.length co13):Value).ownBlock∧some k_≠((.slice Ao19 t218.length co19):Value).ownBlock) (.slice Ao9 t207.length co9) t207)∧A0_ (Kd.R k75 75 wc w.heap.size (fun k_=>some k_≠((.slice Ao9 t207.length co9):Value).ownBlock∧some k_≠((.slice Ao19 t218.length co19):Value).ownBlock) (.slice Ao13 t213.length co13) t213)∧A0_ (Kd.R k75 75 wc w.heap.size (fun k_=>some k_≠((.slice Ao9 t207.length co9):Value).ownBlock∧some k_≠((.slice Ao13 t213.length co13):Value).ownBlock) (.slice Ao19 t218.length co19) t218)∧A0_ (wc.heap[gb212]? = some (.cells #[(.slice Ao9 t207.length co9)] 36 (0,0)))∧A0_ (wc.heap[gb217]? = some (.cells #[(.slice Ao13 t213.length co13),.int .i64 t216] 64 (0,0)))∧A0_ (wc.heap[gb222]? = some (.cells #[(.slice Ao19 t218.length co19),.int .i64 t221] 64 (0,0)))∧A0_ (Below w.heap.size w wc))
  case first=>
   have H:=HC6.out;clear HC6;replace H:=Option.bind_eq_some_iff.mp H;obtain ⟨t223,A230,H⟩:=H
   replace H:((sFO.f k t207).bind fun t224=>(if t223=t224 then (if t216=t221 then ((laws_wForest.f k t213 t218).bind fun t225=>(lFF.j0 k t210 t211 (!t225) t207 t213 t216)) else (lFF.j0 k t210 t211 true t207 t213 t216)) else (lFF.j0 k t210 t211 true t207 t213 t216)))=some r:=H
   have A23:=A0_.mk A230;clear A230;replace H:=Option.bind_eq_some_iff.mp H;obtain ⟨t224,A240,H⟩:=H
   replace H:(if t223=t224 then (if t216=t221 then ((laws_wForest.f k t213 t218).bind fun t225=>(lFF.j0 k t210 t211 (!t225) t207 t213 t216)) else (lFF.j0 k t210 t211 true t207 t213 t216)) else (lFF.j0 k t210 t211 true t207 t213 t216))=some r:=H
   have A24:=A0_.mk A240;clear A240
   by_cases c25:t223=t224
   ·rw [if_pos c25] at H
    have c25b0:(t223==t224)=true:=beq_iff_eq.mpr c25;have c25b1:(t223 != t224)=false:=bne_eq_false_iff_eq.mpr c25;clear c25
    (first|rw [c25b0]|(simp only [i64_w,i32_w];rw [c25b0])|skip)
    by_cases c26:t216=t221
    ·rw [if_pos c26] at H
     have c26b0:(t216==t221)=true:=beq_iff_eq.mpr c26;have c26b1:(t216 != t221)=false:=bne_eq_false_iff_eq.mpr c26;clear c26;replace H:=Option.bind_eq_some_iff.mp H;obtain ⟨t225,A270,H⟩:=H
     replace H:(lFF.j0 k t210 t211 (!t225) t207 t213 t216)=some r:=H
     have A27:=A0_.mk A270;clear A270
     have H':=A0_.mk H
     clear H
     try go_wp2
     have n0_:A0_ (Kd.R k75 75 ((w18.setCell ⟨gb222,0,none⟩ (.slice Ao19 t218.length co19)).setCell ⟨gb222,1,none⟩ (.int .i64 t221)) w.heap.size (fun k_=>some k_≠(.slice Ao13 t213.length co13:Value).ownBlock∧some k_≠(.slice Ao19 t218.length co19:Value).ownBlock) (.slice Ao9 t207.length co9) t207):=⟨by (with_reducible repeat (first|apply Kd.R_alloc|apply Kd.R_drewN|apply Kd.R_drew));exact Kd.R_mono (Kd.R_far (p:=⟨gb222,1,none⟩) (Kd.R_far (p:=⟨gb222,0,none⟩) (Kd.R_types HO209.out BK222.out (by decide)) (fun _ hk=>hk.2) (.slice Ao19 t218.length co19)) (fun _ hk=>hk.2) (.int .i64 t221)) (fun _ hk=>⟨hk.1.1.2,hk.1.2⟩)⟩;have n1_:A0_ (Kd.R k75 75 ((w18.setCell ⟨gb222,0,none⟩ (.slice Ao19 t218.length co19)).setCell ⟨gb222,1,none⟩ (.int .i64 t221)) w.heap.size (fun k_=>some k_≠(.slice Ao9 t207.length co9:Value).ownBlock∧some k_≠(.slice Ao19 t218.length co19:Value).ownBlock) (.slice Ao13 t213.length co13) t213):=⟨by (with_reducible repeat (first|apply Kd.R_alloc|apply Kd.R_drewN|apply Kd.R_drew));exact Kd.R_mono (Kd.R_far (p:=⟨gb222,1,none⟩) (Kd.R_far (p:=⟨gb222,0,none⟩) (Kd.R_types HO215.out BK222.out (by decide)) (fun _ hk=>hk.2) (.slice Ao19 t218.length co19)) (fun _ hk=>hk.2) (.int .i64 t221)) (fun _ hk=>⟨hk.1.1.2,hk.1.2⟩)⟩;have n2_:A0_ (Kd.R k75 75 ((w18.setCell ⟨gb222,0,none⟩ (.slice Ao19 t218.length co19)).setCell ⟨gb222,1,none⟩ (.int .i64 t221)) w.heap.size (fun k_=>some k_≠(.slice Ao9 t207.length co9:Value).ownBlock∧some k_≠(.slice Ao13 t213.length co13:Value).ownBlock) (.slice Ao19 t218.length co19) t218):=⟨by (with_reducible repeat (first|apply Kd.R_alloc|apply Kd.R_drewN|apply Kd.R_drew));exact Kd.R_mono (Kd.R_far (p:=⟨gb222,1,none⟩) (Kd.R_far (p:=⟨gb222,0,none⟩) (Kd.R_types HO220.out BK222.out (by decide)) (fun _ hk=>hk.2) (.slice Ao19 t218.length co19)) (fun _ hk=>hk.2) (.int .i64 t221)) (fun _ hk=>⟨hk.1.1.2,hk.1.2⟩)⟩;have n3_:A0_ (((w18.setCell ⟨gb222,0,none⟩ (.slice Ao19 t218.length co19)).setCell ⟨gb222,1,none⟩ (.int .i64 t221)).heap[gb212]? = some (.cells #[.slice Ao9 t207.length co9] 36 (0,0))):=⟨by (with_reducible repeat first|apply bkN|apply bkD|apply bkA);refine bkf ?_ NB212_222.out _;(with_reducible repeat first|apply bkN|apply bkD|apply bkA);refine bkf ?_ NB212_222.out _;(with_reducible repeat first|apply bkN|apply bkD|apply bkA);exact BK212.out⟩;have n4_:A0_ (((w18.setCell ⟨gb222,0,none⟩ (.slice Ao19 t218.length co19)).setCell ⟨gb222,1,none⟩ (.int .i64 t221)).heap[gb217]? = some (.cells #[.slice Ao13 t213.length co13,.int .i64 t216] 64 (0,0))):=⟨by (with_reducible repeat first|apply bkN|apply bkD|apply bkA);refine bkf ?_ NB217_222.out _;(with_reducible repeat first|apply bkN|apply bkD|apply bkA);refine bkf ?_ NB217_222.out _;(with_reducible repeat first|apply bkN|apply bkD|apply bkA);exact BK217.out⟩;have n5_:A0_ (((w18.setCell ⟨gb222,0,none⟩ (.slice Ao19 t218.length co19)).setCell ⟨gb222,1,none⟩ (.int .i64 t221)).heap[gb222]? = some (.cells #[.slice Ao19 t218.length co19,.int .i64 t221] 64 (0,0))):=⟨by (with_reducible repeat first|apply bkN|apply bkD|apply bkA);refine bkP (cs:=#[.slice Ao19 t218.length co19,.int .i64 0]) ?_ 1 _ rfl;(with_reducible repeat first|apply bkN|apply bkD|apply bkA);refine bkP (cs:=#[.slice none 0 0,.int .i64 0]) ?_ 0 _ rfl;(with_reducible repeat first|apply bkN|apply bkD|apply bkA);exact BK222.out⟩;have n6_:A0_ (Below w.heap.size w ((w18.setCell ⟨gb222,0,none⟩ (.slice Ao19 t218.length co19)).setCell ⟨gb222,1,none⟩ (.int .i64 t221))):=⟨by repeat (first|(with_reducible first|exact HB.out|apply bal|apply pdN|apply bdr|refine bst ?_ GE212.out|refine bst ?_ GE217.out|refine bst ?_ GE222.out)|exact HB.out)⟩;(try clear HO209);(try clear HO215);(try clear HO220);(try clear BK212);(try clear BK217);(try clear BK222);(try clear HB)
     generalize ((w18.setCell ⟨gb222,0,none⟩ (.slice Ao19 t218.length co19)).setCell ⟨gb222,1,none⟩ (.int .i64 t221))=w28 at n0_ n1_ n2_ n3_ n4_ n5_ n6_ ⊢
     have HO209:=n0_;have HO215:=n1_;have HO220:=n2_;have BK212:=n3_;have BK217:=n4_;have BK222:=n5_;have HB:=n6_;clear n0_ n1_ n2_ n3_ n4_ n5_ n6_;have n0_:=A0_.mk (Kd.R_drew HO209.out);have n1_:=A0_.mk (Kd.R_drew HO215.out);have n2_:=A0_.mk (Kd.R_drew HO220.out);have n3_:=A0_.mk (bkD BK212.out);have n4_:=A0_.mk (bkD BK217.out);have n5_:=A0_.mk (bkD BK222.out);have n6_:=A0_.mk (bdr HB.out);clear HO209;clear HO215;clear HO220;clear BK212;clear BK217;clear BK222;clear HB;have HO209:=n0_;have HO215:=n1_;have HO220:=n2_;have BK212:=n3_;have BK217:=n4_;have BK222:=n5_;have HB:=n6_;clear n0_ n1_ n2_ n3_ n4_ n5_ n6_;refine start_ (n:=20) (S:=fun w'=>w'.cell? ⟨gb212,0,none⟩=some (.slice Ao9 t207.length co9)∧w'.cell? ⟨gb217,0,none⟩=some (.slice Ao13 t213.length co13)∧w'.cell? ⟨gb217,1,none⟩=some (.int .i64 t216)∧w'.cell? ⟨gb222,0,none⟩=some (.slice Ao19 t218.length co19)∧w'.cell? ⟨gb222,1,none⟩=some (.int .i64 t221)) (ds:=[]) #[n_,n_,n_,n_,n_,n_,n_,n_,n_,n_,n_,n_,n_,n_,n_,n_,n_,n_,n_,n_] (by kernel_rfl) rfl rfl ⟨(bkC BK212.out 0).trans rfl,(bkC BK217.out 0).trans rfl,(bkC BK217.out 1).trans rfl,(bkC BK222.out 0).trans rfl,(bkC BK222.out 1).trans rfl⟩ (fun hHeld=>?_);refine with_tabW lFF.tab6 lFF.bits6 (fun HT_ HW_=>?_)
     generalize w28.drew=w29 at HO209 HO215 HO220 BK212 BK217 BK222 HB hHeld ⊢
     refine take_ (i:=0) (N:=some 28) (v:=?_) (a':=?_) #[y_,n_,n_,n_,n_,n_,n_,n_,n_,n_,n_,n_,n_,n_,n_,n_,n_,n_,n_,n_] rfl rfl (take_ofW HT_.out HW_.out (by kernel_rfl)) (fun _ _ _ h=>h) (Or.inl ⟨by rfl,?_⟩) hHeld ?_ ?_;rotate_left
     ·rintro w' ⟨s0,s1,s2,s3,s4⟩
      go_simp;with_reducible rfl
     rotate_left
     ·simp only [Act.put,List.setIfInBounds_toArray,List.set_cons_zero,List.set_cons_succ,i64_w,i32_w]
      rfl
     refine take_ (i:=2) (N:=some 30) (v:=?_) (a':=?_) #[y_,n_,y_,n_,n_,n_,n_,n_,n_,n_,n_,n_,n_,n_,n_,n_,n_,n_,n_,n_] rfl rfl (take_ofW HT_.out HW_.out (by kernel_rfl)) (fun _ _ _ h=>h) (Or.inl ⟨by rfl,?_⟩) hHeld ?_ ?_;rotate_left
     ·rintro w' ⟨s0,s1,s2,s3,s4⟩
      go_simp;with_reducible rfl
     rotate_left
     ·simp only [Act.put,List.setIfInBounds_toArray,List.set_cons_zero,List.set_cons_succ,i64_w,i32_w]
      rfl
     refine one_ (i:=1) (N:=some 29) #[y_,y_,y_,n_,n_,n_,n_,n_,n_,n_,n_,n_,n_,n_,n_,n_,n_,n_,n_,n_] rfl rfl (one_of HT_.out (by kernel_rfl)) (by decide) (fun K hK=>?_);refine goes_ Try.func24 (by kernel_rfl) rfl #[.agg #[.slice Ao9 t207.length co9]] (by rfl) rfl rfl (by (try simp only [List.map_toArray,List.map_cons,List.map_nil]);first|done|rfl|(simp only [List.length_drop,List.length_take];rfl)) ?_
     with_reducible refine (iFO.calls k _ _ t207 t223 _ ?side1 ?side2 A23.out).mono ?_
     (case side1=>repeat (first|exact (Kd.R_reads' HO209.out).2.2|(with_reducible refine Kd.C_alloc ?_ _)|(with_reducible refine Kd.C_drewN ?_ _)|(with_reducible refine Kd.C_drew ?_)))
     (case side2=>exact (Kd.R_reads' HO209.out).2.1)
     rintro e w30 ⟨rfl,hb⟩
     refine ⟨_,rfl,?_⟩;have n0_:=A0_.mk (Kd.R_below (by (with_reducible repeat (first|apply Kd.R_alloc|apply Kd.R_drewN|apply Kd.R_drew));exact HO209.out) hb);have n1_:=A0_.mk (Kd.R_below (by (with_reducible repeat (first|apply Kd.R_alloc|apply Kd.R_drewN|apply Kd.R_drew));exact HO215.out) hb);have n2_:=A0_.mk (Kd.R_below (by (with_reducible repeat (first|apply Kd.R_alloc|apply Kd.R_drewN|apply Kd.R_drew));exact HO220.out) hb);have n3_:=A0_.mk (bkB (g:=gb212) (o:=.cells #[.slice Ao9 t207.length co9] 36 (0,0)) (by (with_reducible repeat first|apply bkN|apply bkD|apply bkA);exact BK212.out) hb);have n4_:=A0_.mk (bkB (g:=gb217) (o:=.cells #[.slice Ao13 t213.length co13,.int .i64 t216] 64 (0,0)) (by (with_reducible repeat first|apply bkN|apply bkD|apply bkA);exact BK217.out) hb);have n5_:=A0_.mk (bkB (g:=gb222) (o:=.cells #[.slice Ao19 t218.length co19,.int .i64 t221] 64 (0,0)) (by (with_reducible repeat first|apply bkN|apply bkD|apply bkA);exact BK222.out) hb);have n6_:=A0_.mk (bsp (by repeat (first|(with_reducible first|exact HB.out|apply bal|apply pdN|apply bdr|refine bst ?_ GE212.out|refine bst ?_ GE217.out|refine bst ?_ GE222.out)|exact HB.out)) hb);clear HO209;clear HO215;clear HO220;clear BK212;clear BK217;clear BK222;clear HB;have HO209:=n0_;have HO215:=n1_;have HO220:=n2_;have BK212:=n3_;have BK217:=n4_;have BK222:=n5_;have HB:=n6_;clear n0_ n1_ n2_ n3_ n4_ n5_ n6_;(try clear hb);(try clear hb2);(try clear hk);(try clear hi);refine hK.out _ _ ⟨(bkC BK212.out 0).trans rfl,(bkC BK217.out 0).trans rfl,(bkC BK217.out 1).trans rfl,(bkC BK222.out 0).trans rfl,(bkC BK222.out 1).trans rfl⟩ (fun hHeld=>?_);clear hK K;refine norm_ (a':=?_) ?_ ?_;rotate_left
     ·show Act.put _ (some 29) _=_
      simp only [Act.put,List.setIfInBounds_toArray,List.set_cons_zero,List.set_cons_succ,i64_w,i32_w];rfl
     refine one_ (i:=3) (N:=some 31) #[y_,y_,y_,y_,n_,n_,n_,n_,n_,n_,n_,n_,n_,n_,n_,n_,n_,n_,n_,n_] rfl rfl (one_of HT_.out (by kernel_rfl)) (by decide) (fun K hK=>?_);refine goes_ Try.func22 (by kernel_rfl) rfl #[.agg #[.slice Ao9 t207.length co9]] (by rfl) rfl rfl (by (try simp only [List.map_toArray,List.map_cons,List.map_nil]);first|done|rfl|(simp only [List.length_drop,List.length_take];rfl)) ?_
     with_reducible refine (sFO.calls k _ _ t207 t224 _ ?side1 ?side2 A24.out).mono ?_
     (case side1=>repeat (first|exact (Kd.R_reads' HO209.out).2.2|(with_reducible refine Kd.C_alloc ?_ _)|(with_reducible refine Kd.C_drewN ?_ _)|(with_reducible refine Kd.C_drew ?_)))
     (case side2=>exact (Kd.R_reads' HO209.out).2.1)
     rintro e w31 ⟨rfl,hb⟩
     refine ⟨_,rfl,?_⟩;have n0_:=A0_.mk (Kd.R_below (by (with_reducible repeat (first|apply Kd.R_alloc|apply Kd.R_drewN|apply Kd.R_drew));exact HO209.out) hb);have n1_:=A0_.mk (Kd.R_below (by (with_reducible repeat (first|apply Kd.R_alloc|apply Kd.R_drewN|apply Kd.R_drew));exact HO215.out) hb);have n2_:=A0_.mk (Kd.R_below (by (with_reducible repeat (first|apply Kd.R_alloc|apply Kd.R_drewN|apply Kd.R_drew));exact HO220.out) hb);have n3_:=A0_.mk (bkB (g:=gb212) (o:=.cells #[.slice Ao9 t207.length co9] 36 (0,0)) (by (with_reducible repeat first|apply bkN|apply bkD|apply bkA);exact BK212.out) hb);have n4_:=A0_.mk (bkB (g:=gb217) (o:=.cells #[.slice Ao13 t213.length co13,.int .i64 t216] 64 (0,0)) (by (with_reducible repeat first|apply bkN|apply bkD|apply bkA);exact BK217.out) hb);have n5_:=A0_.mk (bkB (g:=gb222) (o:=.cells #[.slice Ao19 t218.length co19,.int .i64 t221] 64 (0,0)) (by (with_reducible repeat first|apply bkN|apply bkD|apply bkA);exact BK222.out) hb);have n6_:=A0_.mk (bsp (by repeat (first|(with_reducible first|exact HB.out|apply bal|apply pdN|apply bdr|refine bst ?_ GE212.out|refine bst ?_ GE217.out|refine bst ?_ GE222.out)|exact HB.out)) hb);clear HO209;clear HO215;clear HO220;clear BK212;clear BK217;clear BK222;clear HB;have HO209:=n0_;have HO215:=n1_;have HO220:=n2_;have BK212:=n3_;have BK217:=n4_;have BK222:=n5_;have HB:=n6_;clear n0_ n1_ n2_ n3_ n4_ n5_ n6_;(try clear hb);(try clear hb2);(try clear hk);(try clear hi);refine hK.out _ _ ⟨(bkC BK212.out 0).trans rfl,(bkC BK217.out 0).trans rfl,(bkC BK217.out 1).trans rfl,(bkC BK222.out 0).trans rfl,(bkC BK222.out 1).trans rfl⟩ (fun hHeld=>?_);clear hK K;refine norm_ (a':=?_) ?_ ?_;rotate_left
     ·show Act.put _ (some 31) _=_
      simp only [Act.put,List.setIfInBounds_toArray,List.set_cons_zero,List.set_cons_succ,i64_w,i32_w];rfl
     refine pure_ (i:=4) (N:=some 32) (v:=?_) (a':=?_) #[y_,y_,y_,y_,y_,n_,n_,n_,n_,n_,n_,n_,n_,n_,n_,n_,n_,n_,n_,n_] rfl rfl (any_of HT_.out (by kernel_rfl)) (fun _ _ _ h=>h) (Or.inl ⟨by rfl,?_⟩) ?_ ?_;rotate_left
     ·intro w'
      go_simp;with_reducible rfl
     rotate_left
     ·simp only [Act.put,List.setIfInBounds_toArray,List.set_cons_zero,List.set_cons_succ,i64_w,i32_w]
      rfl
     refine pure_ (i:=5) (N:=some 33) (v:=?_) (a':=?_) #[y_,y_,y_,y_,y_,y_,n_,n_,n_,n_,n_,n_,n_,n_,n_,n_,n_,n_,n_,n_] rfl rfl (any_of HT_.out (by kernel_rfl)) (fun _ _ _ h=>h) (Or.inl ⟨by rfl,?_⟩) ?_ ?_;rotate_left
     ·intro w'
      go_simp;with_reducible rfl
     rotate_left
     ·simp only [Act.put,List.setIfInBounds_toArray,List.set_cons_zero,List.set_cons_succ,i64_w,i32_w]
      rfl
     refine pure_ (i:=6) (N:=some 34) (v:=?_) (a':=?_) #[y_,y_,y_,y_,y_,y_,y_,n_,n_,n_,n_,n_,n_,n_,n_,n_,n_,n_,n_,n_] rfl rfl (any_of HT_.out (by kernel_rfl)) (fun _ _ _ h=>h) (Or.inl ⟨by rfl,?_⟩) ?_ ?_;rotate_left
     ·intro w'
      go_simp;with_reducible rfl
     rotate_left
     ·simp only [Act.put,List.setIfInBounds_toArray,List.set_cons_zero,List.set_cons_succ,i64_w,i32_w]
      rfl
     refine pure_ (i:=8) (N:=some 36) (v:=?_) (a':=?_) #[y_,y_,y_,y_,y_,y_,y_,n_,y_,n_,n_,n_,n_,n_,n_,n_,n_,n_,n_,n_] rfl rfl (any_of HT_.out (by kernel_rfl)) (fun _ _ _ h=>h) (Or.inl ⟨by rfl,?_⟩) ?_ ?_;rotate_left
     ·intro w'
      go_simp;with_reducible rfl
     rotate_left
     ·simp only [Act.put,List.setIfInBounds_toArray,List.set_cons_zero,List.set_cons_succ,i64_w,i32_w]
      rfl
     refine take_ (i:=7) (N:=some 35) (v:=?_) (a':=?_) #[y_,y_,y_,y_,y_,y_,y_,y_,y_,n_,n_,n_,n_,n_,n_,n_,n_,n_,n_,n_] rfl rfl (take_ofW HT_.out HW_.out (by kernel_rfl)) (fun _ _ _ h=>h) (Or.inl ⟨by rfl,?_⟩) hHeld ?_ ?_;rotate_left
     ·rintro w' ⟨s0,s1,s2,s3,s4⟩
      go_simp;with_reducible rfl
     rotate_left
     ·simp only [Act.put,List.setIfInBounds_toArray,List.set_cons_zero,List.set_cons_succ,i64_w,i32_w]
      rfl
     refine take_ (i:=9) (N:=some 37) (v:=?_) (a':=?_) #[y_,y_,y_,y_,y_,y_,y_,y_,y_,y_,n_,n_,n_,n_,n_,n_,n_,n_,n_,n_] rfl rfl (take_ofW HT_.out HW_.out (by kernel_rfl)) (fun _ _ _ h=>h) (Or.inl ⟨by rfl,?_⟩) hHeld ?_ ?_;rotate_left
     ·rintro w' ⟨s0,s1,s2,s3,s4⟩
      go_simp;with_reducible rfl
     rotate_left
     ·simp only [Act.put,List.setIfInBounds_toArray,List.set_cons_zero,List.set_cons_succ,i64_w,i32_w]
      rfl
     refine pure_ (i:=10) (N:=some 38) (v:=?_) (a':=?_) #[y_,y_,y_,y_,y_,y_,y_,y_,y_,y_,y_,n_,n_,n_,n_,n_,n_,n_,n_,n_] rfl rfl (any_of HT_.out (by kernel_rfl)) (fun _ _ _ h=>h) (Or.inl ⟨by rfl,?_⟩) ?_ ?_;rotate_left
     ·intro w'
      go_simp;with_reducible rfl
     rotate_left
     ·simp only [Act.put,List.setIfInBounds_toArray,List.set_cons_zero,List.set_cons_succ,i64_w,i32_w]
      rfl
     refine pure_ (i:=11) (N:=some 39) (v:=?_) (a':=?_) #[y_,y_,y_,y_,y_,y_,y_,y_,y_,y_,y_,y_,n_,n_,n_,n_,n_,n_,n_,n_] rfl rfl (any_of HT_.out (by kernel_rfl)) (fun _ _ _ h=>h) (Or.inl ⟨by rfl,?_⟩) ?_ ?_;rotate_left
     ·intro w'
      go_simp;with_reducible rfl
     rotate_left
     ·simp only [Act.put,List.setIfInBounds_toArray,List.set_cons_zero,List.set_cons_succ,i64_w,i32_w]
      rfl
     refine pure_ (i:=12) (N:=some 40) (v:=?_) (a':=?_) #[y_,y_,y_,y_,y_,y_,y_,y_,y_,y_,y_,y_,y_,n_,n_,n_,n_,n_,n_,n_] rfl rfl (any_of HT_.out (by kernel_rfl)) (fun _ _ _ h=>h) (Or.inl ⟨by rfl,?_⟩) ?_ ?_;rotate_left
     ·intro w'
      go_simp;with_reducible rfl
     rotate_left
     ·simp only [Act.put,List.setIfInBounds_toArray,List.set_cons_zero,List.set_cons_succ,i64_w,i32_w]
      rfl
     refine pure_ (i:=13) (N:=some 41) (v:=?_) (a':=?_) #[y_,y_,y_,y_,y_,y_,y_,y_,y_,y_,y_,y_,y_,y_,n_,n_,n_,n_,n_,n_] rfl rfl (any_of HT_.out (by kernel_rfl)) (fun _ _ _ h=>h) (Or.inl ⟨by rfl,?_⟩) ?_ ?_;rotate_left
     ·intro w'
      go_simp;with_reducible rfl
     rotate_left
     ·simp only [Act.put,List.setIfInBounds_toArray,List.set_cons_zero,List.set_cons_succ,i64_w,i32_w]
      rfl
     refine pure_ (i:=15) (N:=some 43) (v:=?_) (a':=?_) #[y_,y_,y_,y_,y_,y_,y_,y_,y_,y_,y_,y_,y_,y_,n_,y_,n_,n_,n_,n_] rfl rfl (any_of HT_.out (by kernel_rfl)) (fun _ _ _ h=>h) (Or.inl ⟨by rfl,?_⟩) ?_ ?_;rotate_left
     ·intro w'
      go_simp;with_reducible rfl
     rotate_left
     ·simp only [Act.put,List.setIfInBounds_toArray,List.set_cons_zero,List.set_cons_succ,i64_w,i32_w]
      rfl
     refine take_ (i:=14) (N:=some 42) (v:=?_) (a':=?_) #[y_,y_,y_,y_,y_,y_,y_,y_,y_,y_,y_,y_,y_,y_,y_,y_,n_,n_,n_,n_] rfl rfl (take_ofW HT_.out HW_.out (by kernel_rfl)) (fun _ _ _ h=>h) (Or.inl ⟨by rfl,?_⟩) hHeld ?_ ?_;rotate_left
     ·rintro w' ⟨s0,s1,s2,s3,s4⟩
      go_simp;with_reducible rfl
     rotate_left
     ·simp only [Act.put,List.setIfInBounds_toArray,List.set_cons_zero,List.set_cons_succ,i64_w,i32_w]
      rfl
     refine take_ (i:=16) (N:=some 44) (v:=?_) (a':=?_) #[y_,y_,y_,y_,y_,y_,y_,y_,y_,y_,y_,y_,y_,y_,y_,y_,y_,n_,n_,n_] rfl rfl (take_ofW HT_.out HW_.out (by kernel_rfl)) (fun _ _ _ h=>h) (Or.inl ⟨by rfl,?_⟩) hHeld ?_ ?_;rotate_left
     ·rintro w' ⟨s0,s1,s2,s3,s4⟩
      go_simp;with_reducible rfl
     rotate_left
     ·simp only [Act.put,List.setIfInBounds_toArray,List.set_cons_zero,List.set_cons_succ,i64_w,i32_w]
      rfl
     refine one_ (i:=17) (N:=some 45) #[y_,y_,y_,y_,y_,y_,y_,y_,y_,y_,y_,y_,y_,y_,y_,y_,y_,y_,n_,n_] rfl rfl (one_of HT_.out (by kernel_rfl)) (by decide) (fun K hK=>?_);refine goes_ Try.func37 (by kernel_rfl) rfl #[.agg #[.slice Ao13 t213.length co13],.agg #[.slice Ao19 t218.length co19]] (by rfl) rfl rfl (by (try simp only [List.map_toArray,List.map_cons,List.map_nil]);first|done|rfl|(simp only [List.length_drop,List.length_take];rfl)) ?_
     with_reducible refine (laws_wForest.calls k _ _ t213 _ _ t218 t225 _ ?side1 ?side2 ?side3 ?side4 A27.out).mono ?_
     (case side1=>repeat (first|exact (Kd.R_reads' HO215.out).2.2|(with_reducible refine Kd.C_alloc ?_ _)|(with_reducible refine Kd.C_drewN ?_ _)|(with_reducible refine Kd.C_drew ?_)))
     (case side2=>exact (Kd.R_reads' HO215.out).2.1)
     (case side3=>repeat (first|exact (Kd.R_reads' HO220.out).2.2|(with_reducible refine Kd.C_alloc ?_ _)|(with_reducible refine Kd.C_drewN ?_ _)|(with_reducible refine Kd.C_drew ?_)))
     (case side4=>exact (Kd.R_reads' HO220.out).2.1)
     rintro e w32 ⟨rfl,hb⟩
     refine ⟨_,rfl,?_⟩;have n0_:=A0_.mk (Kd.R_below (by (with_reducible repeat (first|apply Kd.R_alloc|apply Kd.R_drewN|apply Kd.R_drew));exact HO209.out) hb);have n1_:=A0_.mk (Kd.R_below (by (with_reducible repeat (first|apply Kd.R_alloc|apply Kd.R_drewN|apply Kd.R_drew));exact HO215.out) hb);have n2_:=A0_.mk (Kd.R_below (by (with_reducible repeat (first|apply Kd.R_alloc|apply Kd.R_drewN|apply Kd.R_drew));exact HO220.out) hb);have n3_:=A0_.mk (bkB (g:=gb212) (o:=.cells #[.slice Ao9 t207.length co9] 36 (0,0)) (by (with_reducible repeat first|apply bkN|apply bkD|apply bkA);exact BK212.out) hb);have n4_:=A0_.mk (bkB (g:=gb217) (o:=.cells #[.slice Ao13 t213.length co13,.int .i64 t216] 64 (0,0)) (by (with_reducible repeat first|apply bkN|apply bkD|apply bkA);exact BK217.out) hb);have n5_:=A0_.mk (bkB (g:=gb222) (o:=.cells #[.slice Ao19 t218.length co19,.int .i64 t221] 64 (0,0)) (by (with_reducible repeat first|apply bkN|apply bkD|apply bkA);exact BK222.out) hb);have n6_:=A0_.mk (bsp (by repeat (first|(with_reducible first|exact HB.out|apply bal|apply pdN|apply bdr|refine bst ?_ GE212.out|refine bst ?_ GE217.out|refine bst ?_ GE222.out)|exact HB.out)) hb);clear HO209;clear HO215;clear HO220;clear BK212;clear BK217;clear BK222;clear HB;have HO209:=n0_;have HO215:=n1_;have HO220:=n2_;have BK212:=n3_;have BK217:=n4_;have BK222:=n5_;have HB:=n6_;clear n0_ n1_ n2_ n3_ n4_ n5_ n6_;(try clear hb);(try clear hb2);(try clear hk);(try clear hi);refine hK.out _ _ ⟨(bkC BK212.out 0).trans rfl,(bkC BK217.out 0).trans rfl,(bkC BK217.out 1).trans rfl,(bkC BK222.out 0).trans rfl,(bkC BK222.out 1).trans rfl⟩ (fun hHeld=>?_);clear hK K;refine norm_ (a':=?_) ?_ ?_;rotate_left
     ·show Act.put _ (some 45) _=_
      simp only [Act.put,List.setIfInBounds_toArray,List.set_cons_zero,List.set_cons_succ,i64_w,i32_w];rfl
     refine pure_ (i:=18) (N:=some 46) (v:=?_) (a':=?_) #[y_,y_,y_,y_,y_,y_,y_,y_,y_,y_,y_,y_,y_,y_,y_,y_,y_,y_,y_,n_] rfl rfl (any_of HT_.out (by kernel_rfl)) (fun _ _ _ h=>h) (Or.inl ⟨by rfl,?_⟩) ?_ ?_;rotate_left
     ·intro w'
      go_simp;with_reducible rfl
     rotate_left
     ·simp only [Act.put,List.setIfInBounds_toArray,List.set_cons_zero,List.set_cons_succ,i64_w,i32_w]
      rfl
     refine pure_ (i:=19) (N:=some 47) (v:=?_) (a':=?_) #[y_,y_,y_,y_,y_,y_,y_,y_,y_,y_,y_,y_,y_,y_,y_,y_,y_,y_,y_,y_] rfl rfl (any_of HT_.out (by kernel_rfl)) (fun _ _ _ h=>h) (Or.inl ⟨by rfl,?_⟩) ?_ ?_;rotate_left
     ·intro w'
      go_simp;with_reducible rfl
     rotate_left
     ·simp only [Act.put,List.setIfInBounds_toArray,List.set_cons_zero,List.set_cons_succ,i64_w,i32_w]
      rfl
     refine done_ (done_of HT_.out (by kernel_rfl)) ?_
     try go_wp2
     go_meet
     case rel=>exact ⟨_,(!t225),(by first|rfl|(simp;done)|(simp [*];done)),H',⟨by first|omega|exact Nat.le_refl _⟩,⟨by (with_reducible repeat (first|apply Kd.R_alloc|apply Kd.R_drewN|apply Kd.R_drew));exact HO209.out⟩,⟨by (with_reducible repeat (first|apply Kd.R_alloc|apply Kd.R_drewN|apply Kd.R_drew));exact HO215.out⟩,⟨by (with_reducible repeat (first|apply Kd.R_alloc|apply Kd.R_drewN|apply Kd.R_drew));exact HO220.out⟩,⟨by (with_reducible repeat first|apply bkN|apply bkD|apply bkA);exact BK212.out⟩,⟨by (with_reducible repeat first|apply bkN|apply bkD|apply bkA);exact BK217.out⟩,⟨by (with_reducible repeat first|apply bkN|apply bkD|apply bkA);exact BK222.out⟩,⟨by repeat (first|(with_reducible first|exact HB.out|apply bal|apply pdN|apply bdr|refine bst ?_ GE212.out|refine bst ?_ GE217.out|refine bst ?_ GE222.out)|exact HB.out)⟩⟩
    ·rw [if_neg c26] at H
     have c26b0:(t216==t221)=false:=beq_eq_false_iff_ne.mpr c26;have c26b1:(t216 != t221)=true:=bne_iff_ne.mpr c26
     have H':=A0_.mk H
     clear H
     try go_wp2
     have n0_:A0_ (Kd.R k75 75 ((w18.setCell ⟨gb222,0,none⟩ (.slice Ao19 t218.length co19)).setCell ⟨gb222,1,none⟩ (.int .i64 t221)) w.heap.size (fun k_=>some k_≠(.slice Ao13 t213.length co13:Value).ownBlock∧some k_≠(.slice Ao19 t218.length co19:Value).ownBlock) (.slice Ao9 t207.length co9) t207):=⟨by (with_reducible repeat (first|apply Kd.R_alloc|apply Kd.R_drewN|apply Kd.R_drew));exact Kd.R_mono (Kd.R_far (p:=⟨gb222,1,none⟩) (Kd.R_far (p:=⟨gb222,0,none⟩) (Kd.R_types HO209.out BK222.out (by decide)) (fun _ hk=>hk.2) (.slice Ao19 t218.length co19)) (fun _ hk=>hk.2) (.int .i64 t221)) (fun _ hk=>⟨hk.1.1.2,hk.1.2⟩)⟩;have n1_:A0_ (Kd.R k75 75 ((w18.setCell ⟨gb222,0,none⟩ (.slice Ao19 t218.length co19)).setCell ⟨gb222,1,none⟩ (.int .i64 t221)) w.heap.size (fun k_=>some k_≠(.slice Ao9 t207.length co9:Value).ownBlock∧some k_≠(.slice Ao19 t218.length co19:Value).ownBlock) (.slice Ao13 t213.length co13) t213):=⟨by (with_reducible repeat (first|apply Kd.R_alloc|apply Kd.R_drewN|apply Kd.R_drew));exact Kd.R_mono (Kd.R_far (p:=⟨gb222,1,none⟩) (Kd.R_far (p:=⟨gb222,0,none⟩) (Kd.R_types HO215.out BK222.out (by decide)) (fun _ hk=>hk.2) (.slice Ao19 t218.length co19)) (fun _ hk=>hk.2) (.int .i64 t221)) (fun _ hk=>⟨hk.1.1.2,hk.1.2⟩)⟩;have n2_:A0_ (Kd.R k75 75 ((w18.setCell ⟨gb222,0,none⟩ (.slice Ao19 t218.length co19)).setCell ⟨gb222,1,none⟩ (.int .i64 t221)) w.heap.size (fun k_=>some k_≠(.slice Ao9 t207.length co9:Value).ownBlock∧some k_≠(.slice Ao13 t213.length co13:Value).ownBlock) (.slice Ao19 t218.length co19) t218):=⟨by (with_reducible repeat (first|apply Kd.R_alloc|apply Kd.R_drewN|apply Kd.R_drew));exact Kd.R_mono (Kd.R_far (p:=⟨gb222,1,none⟩) (Kd.R_far (p:=⟨gb222,0,none⟩) (Kd.R_types HO220.out BK222.out (by decide)) (fun _ hk=>hk.2) (.slice Ao19 t218.length co19)) (fun _ hk=>hk.2) (.int .i64 t221)) (fun _ hk=>⟨hk.1.1.2,hk.1.2⟩)⟩;have n3_:A0_ (((w18.setCell ⟨gb222,0,none⟩ (.slice Ao19 t218.length co19)).setCell ⟨gb222,1,none⟩ (.int .i64 t221)).heap[gb212]? = some (.cells #[.slice Ao9 t207.length co9] 36 (0,0))):=⟨by (with_reducible repeat first|apply bkN|apply bkD|apply bkA);refine bkf ?_ NB212_222.out _;(with_reducible repeat first|apply bkN|apply bkD|apply bkA);refine bkf ?_ NB212_222.out _;(with_reducible repeat first|apply bkN|apply bkD|apply bkA);exact BK212.out⟩;have n4_:A0_ (((w18.setCell ⟨gb222,0,none⟩ (.slice Ao19 t218.length co19)).setCell ⟨gb222,1,none⟩ (.int .i64 t221)).heap[gb217]? = some (.cells #[.slice Ao13 t213.length co13,.int .i64 t216] 64 (0,0))):=⟨by (with_reducible repeat first|apply bkN|apply bkD|apply bkA);refine bkf ?_ NB217_222.out _;(with_reducible repeat first|apply bkN|apply bkD|apply bkA);refine bkf ?_ NB217_222.out _;(with_reducible repeat first|apply bkN|apply bkD|apply bkA);exact BK217.out⟩;have n5_:A0_ (((w18.setCell ⟨gb222,0,none⟩ (.slice Ao19 t218.length co19)).setCell ⟨gb222,1,none⟩ (.int .i64 t221)).heap[gb222]? = some (.cells #[.slice Ao19 t218.length co19,.int .i64 t221] 64 (0,0))):=⟨by (with_reducible repeat first|apply bkN|apply bkD|apply bkA);refine bkP (cs:=#[.slice Ao19 t218.length co19,.int .i64 0]) ?_ 1 _ rfl;(with_reducible repeat first|apply bkN|apply bkD|apply bkA);refine bkP (cs:=#[.slice none 0 0,.int .i64 0]) ?_ 0 _ rfl;(with_reducible repeat first|apply bkN|apply bkD|apply bkA);exact BK222.out⟩;have n6_:A0_ (Below w.heap.size w ((w18.setCell ⟨gb222,0,none⟩ (.slice Ao19 t218.length co19)).setCell ⟨gb222,1,none⟩ (.int .i64 t221))):=⟨by repeat (first|(with_reducible first|exact HB.out|apply bal|apply pdN|apply bdr|refine bst ?_ GE212.out|refine bst ?_ GE217.out|refine bst ?_ GE222.out)|exact HB.out)⟩;(try clear HO209);(try clear HO215);(try clear HO220);(try clear BK212);(try clear BK217);(try clear BK222);(try clear HB)
     generalize ((w18.setCell ⟨gb222,0,none⟩ (.slice Ao19 t218.length co19)).setCell ⟨gb222,1,none⟩ (.int .i64 t221))=w33 at n0_ n1_ n2_ n3_ n4_ n5_ n6_ ⊢
     have HO209:=n0_;have HO215:=n1_;have HO220:=n2_;have BK212:=n3_;have BK217:=n4_;have BK222:=n5_;have HB:=n6_;clear n0_ n1_ n2_ n3_ n4_ n5_ n6_;have n0_:=A0_.mk (Kd.R_drew HO209.out);have n1_:=A0_.mk (Kd.R_drew HO215.out);have n2_:=A0_.mk (Kd.R_drew HO220.out);have n3_:=A0_.mk (bkD BK212.out);have n4_:=A0_.mk (bkD BK217.out);have n5_:=A0_.mk (bkD BK222.out);have n6_:=A0_.mk (bdr HB.out);clear HO209;clear HO215;clear HO220;clear BK212;clear BK217;clear BK222;clear HB;have HO209:=n0_;have HO215:=n1_;have HO220:=n2_;have BK212:=n3_;have BK217:=n4_;have BK222:=n5_;have HB:=n6_;clear n0_ n1_ n2_ n3_ n4_ n5_ n6_;refine start_ (n:=20) (S:=fun w'=>w'.cell? ⟨gb212,0,none⟩=some (.slice Ao9 t207.length co9)∧w'.cell? ⟨gb217,0,none⟩=some (.slice Ao13 t213.length co13)∧w'.cell? ⟨gb217,1,none⟩=some (.int .i64 t216)∧w'.cell? ⟨gb222,0,none⟩=some (.slice Ao19 t218.length co19)∧w'.cell? ⟨gb222,1,none⟩=some (.int .i64 t221)) (ds:=[]) #[n_,n_,n_,n_,n_,n_,n_,n_,n_,n_,n_,n_,n_,n_,n_,n_,n_,n_,n_,n_] (by kernel_rfl) rfl rfl ⟨(bkC BK212.out 0).trans rfl,(bkC BK217.out 0).trans rfl,(bkC BK217.out 1).trans rfl,(bkC BK222.out 0).trans rfl,(bkC BK222.out 1).trans rfl⟩ (fun hHeld=>?_);refine with_tabW lFF.tab6 lFF.bits6 (fun HT_ HW_=>?_)
     generalize w33.drew=w34 at HO209 HO215 HO220 BK212 BK217 BK222 HB hHeld ⊢
     refine take_ (i:=0) (N:=some 28) (v:=?_) (a':=?_) #[y_,n_,n_,n_,n_,n_,n_,n_,n_,n_,n_,n_,n_,n_,n_,n_,n_,n_,n_,n_] rfl rfl (take_ofW HT_.out HW_.out (by kernel_rfl)) (fun _ _ _ h=>h) (Or.inl ⟨by rfl,?_⟩) hHeld ?_ ?_;rotate_left
     ·rintro w' ⟨s0,s1,s2,s3,s4⟩
      go_simp;with_reducible rfl
     rotate_left
     ·simp only [Act.put,List.setIfInBounds_toArray,List.set_cons_zero,List.set_cons_succ,i64_w,i32_w]
      rfl
     refine take_ (i:=2) (N:=some 30) (v:=?_) (a':=?_) #[y_,n_,y_,n_,n_,n_,n_,n_,n_,n_,n_,n_,n_,n_,n_,n_,n_,n_,n_,n_] rfl rfl (take_ofW HT_.out HW_.out (by kernel_rfl)) (fun _ _ _ h=>h) (Or.inl ⟨by rfl,?_⟩) hHeld ?_ ?_;rotate_left
     ·rintro w' ⟨s0,s1,s2,s3,s4⟩
      go_simp;with_reducible rfl
     rotate_left
     ·simp only [Act.put,List.setIfInBounds_toArray,List.set_cons_zero,List.set_cons_succ,i64_w,i32_w]
      rfl
     refine one_ (i:=1) (N:=some 29) #[y_,y_,y_,n_,n_,n_,n_,n_,n_,n_,n_,n_,n_,n_,n_,n_,n_,n_,n_,n_] rfl rfl (one_of HT_.out (by kernel_rfl)) (by decide) (fun K hK=>?_);refine goes_ Try.func24 (by kernel_rfl) rfl #[.agg #[.slice Ao9 t207.length co9]] (by rfl) rfl rfl (by (try simp only [List.map_toArray,List.map_cons,List.map_nil]);first|done|rfl|(simp only [List.length_drop,List.length_take];rfl)) ?_
     with_reducible refine (iFO.calls k _ _ t207 t223 _ ?side1 ?side2 A23.out).mono ?_
     (case side1=>repeat (first|exact (Kd.R_reads' HO209.out).2.2|(with_reducible refine Kd.C_alloc ?_ _)|(with_reducible refine Kd.C_drewN ?_ _)|(with_reducible refine Kd.C_drew ?_)))
     (case side2=>exact (Kd.R_reads' HO209.out).2.1)
     rintro e w35 ⟨rfl,hb⟩
     refine ⟨_,rfl,?_⟩;have n0_:=A0_.mk (Kd.R_below (by (with_reducible repeat (first|apply Kd.R_alloc|apply Kd.R_drewN|apply Kd.R_drew));exact HO209.out) hb);have n1_:=A0_.mk (Kd.R_below (by (with_reducible repeat (first|apply Kd.R_alloc|apply Kd.R_drewN|apply Kd.R_drew));exact HO215.out) hb);have n2_:=A0_.mk (Kd.R_below (by (with_reducible repeat (first|apply Kd.R_alloc|apply Kd.R_drewN|apply Kd.R_drew));exact HO220.out) hb);have n3_:=A0_.mk (bkB (g:=gb212) (o:=.cells #[.slice Ao9 t207.length co9] 36 (0,0)) (by (with_reducible repeat first|apply bkN|apply bkD|apply bkA);exact BK212.out) hb);have n4_:=A0_.mk (bkB (g:=gb217) (o:=.cells #[.slice Ao13 t213.length co13,.int .i64 t216] 64 (0,0)) (by (with_reducible repeat first|apply bkN|apply bkD|apply bkA);exact BK217.out) hb);have n5_:=A0_.mk (bkB (g:=gb222) (o:=.cells #[.slice Ao19 t218.length co19,.int .i64 t221] 64 (0,0)) (by (with_reducible repeat first|apply bkN|apply bkD|apply bkA);exact BK222.out) hb);have n6_:=A0_.mk (bsp (by repeat (first|(with_reducible first|exact HB.out|apply bal|apply pdN|apply bdr|refine bst ?_ GE212.out|refine bst ?_ GE217.out|refine bst ?_ GE222.out)|exact HB.out)) hb);clear HO209;clear HO215;clear HO220;clear BK212;clear BK217;clear BK222;clear HB;have HO209:=n0_;have HO215:=n1_;have HO220:=n2_;have BK212:=n3_;have BK217:=n4_;have BK222:=n5_;have HB:=n6_;clear n0_ n1_ n2_ n3_ n4_ n5_ n6_;(try clear hb);(try clear hb2);(try clear hk);(try clear hi);refine hK.out _ _ ⟨(bkC BK212.out 0).trans rfl,(bkC BK217.out 0).trans rfl,(bkC BK217.out 1).trans rfl,(bkC BK222.out 0).trans rfl,(bkC BK222.out 1).trans rfl⟩ (fun hHeld=>?_);clear hK K;refine norm_ (a':=?_) ?_ ?_;rotate_left
     ·show Act.put _ (some 29) _=_
      simp only [Act.put,List.setIfInBounds_toArray,List.set_cons_zero,List.set_cons_succ,i64_w,i32_w];rfl
     refine one_ (i:=3) (N:=some 31) #[y_,y_,y_,y_,n_,n_,n_,n_,n_,n_,n_,n_,n_,n_,n_,n_,n_,n_,n_,n_] rfl rfl (one_of HT_.out (by kernel_rfl)) (by decide) (fun K hK=>?_);refine goes_ Try.func22 (by kernel_rfl) rfl #[.agg #[.slice Ao9 t207.length co9]] (by rfl) rfl rfl (by (try simp only [List.map_toArray,List.map_cons,List.map_nil]);first|done|rfl|(simp only [List.length_drop,List.length_take];rfl)) ?_
     with_reducible refine (sFO.calls k _ _ t207 t224 _ ?side1 ?side2 A24.out).mono ?_
     (case side1=>repeat (first|exact (Kd.R_reads' HO209.out).2.2|(with_reducible refine Kd.C_alloc ?_ _)|(with_reducible refine Kd.C_drewN ?_ _)|(with_reducible refine Kd.C_drew ?_)))
     (case side2=>exact (Kd.R_reads' HO209.out).2.1)
     rintro e w36 ⟨rfl,hb⟩
     refine ⟨_,rfl,?_⟩;have n0_:=A0_.mk (Kd.R_below (by (with_reducible repeat (first|apply Kd.R_alloc|apply Kd.R_drewN|apply Kd.R_drew));exact HO209.out) hb);have n1_:=A0_.mk (Kd.R_below (by (with_reducible repeat (first|apply Kd.R_alloc|apply Kd.R_drewN|apply Kd.R_drew));exact HO215.out) hb);have n2_:=A0_.mk (Kd.R_below (by (with_reducible repeat (first|apply Kd.R_alloc|apply Kd.R_drewN|apply Kd.R_drew));exact HO220.out) hb);have n3_:=A0_.mk (bkB (g:=gb212) (o:=.cells #[.slice Ao9 t207.length co9] 36 (0,0)) (by (with_reducible repeat first|apply bkN|apply bkD|apply bkA);exact BK212.out) hb);have n4_:=A0_.mk (bkB (g:=gb217) (o:=.cells #[.slice Ao13 t213.length co13,.int .i64 t216] 64 (0,0)) (by (with_reducible repeat first|apply bkN|apply bkD|apply bkA);exact BK217.out) hb);have n5_:=A0_.mk (bkB (g:=gb222) (o:=.cells #[.slice Ao19 t218.length co19,.int .i64 t221] 64 (0,0)) (by (with_reducible repeat first|apply bkN|apply bkD|apply bkA);exact BK222.out) hb);have n6_:=A0_.mk (bsp (by repeat (first|(with_reducible first|exact HB.out|apply bal|apply pdN|apply bdr|refine bst ?_ GE212.out|refine bst ?_ GE217.out|refine bst ?_ GE222.out)|exact HB.out)) hb);clear HO209;clear HO215;clear HO220;clear BK212;clear BK217;clear BK222;clear HB;have HO209:=n0_;have HO215:=n1_;have HO220:=n2_;have BK212:=n3_;have BK217:=n4_;have BK222:=n5_;have HB:=n6_;clear n0_ n1_ n2_ n3_ n4_ n5_ n6_;(try clear hb);(try clear hb2);(try clear hk);(try clear hi);refine hK.out _ _ ⟨(bkC BK212.out 0).trans rfl,(bkC BK217.out 0).trans rfl,(bkC BK217.out 1).trans rfl,(bkC BK222.out 0).trans rfl,(bkC BK222.out 1).trans rfl⟩ (fun hHeld=>?_);clear hK K;refine norm_ (a':=?_) ?_ ?_;rotate_left
     ·show Act.put _ (some 31) _=_
      simp only [Act.put,List.setIfInBounds_toArray,List.set_cons_zero,List.set_cons_succ,i64_w,i32_w];rfl
     refine pure_ (i:=4) (N:=some 32) (v:=?_) (a':=?_) #[y_,y_,y_,y_,y_,n_,n_,n_,n_,n_,n_,n_,n_,n_,n_,n_,n_,n_,n_,n_] rfl rfl (any_of HT_.out (by kernel_rfl)) (fun _ _ _ h=>h) (Or.inl ⟨by rfl,?_⟩) ?_ ?_;rotate_left
     ·intro w'
      go_simp;with_reducible rfl
     rotate_left
     ·simp only [Act.put,List.setIfInBounds_toArray,List.set_cons_zero,List.set_cons_succ,i64_w,i32_w]
      rfl
     refine pure_ (i:=5) (N:=some 33) (v:=?_) (a':=?_) #[y_,y_,y_,y_,y_,y_,n_,n_,n_,n_,n_,n_,n_,n_,n_,n_,n_,n_,n_,n_] rfl rfl (any_of HT_.out (by kernel_rfl)) (fun _ _ _ h=>h) (Or.inl ⟨by rfl,?_⟩) ?_ ?_;rotate_left
     ·intro w'
      go_simp;with_reducible rfl
     rotate_left
     ·simp only [Act.put,List.setIfInBounds_toArray,List.set_cons_zero,List.set_cons_succ,i64_w,i32_w]
      rfl
     refine pure_ (i:=6) (N:=some 34) (v:=?_) (a':=?_) #[y_,y_,y_,y_,y_,y_,y_,n_,n_,n_,n_,n_,n_,n_,n_,n_,n_,n_,n_,n_] rfl rfl (any_of HT_.out (by kernel_rfl)) (fun _ _ _ h=>h) (Or.inl ⟨by rfl,?_⟩) ?_ ?_;rotate_left
     ·intro w'
      go_simp;with_reducible rfl
     rotate_left
     ·simp only [Act.put,List.setIfInBounds_toArray,List.set_cons_zero,List.set_cons_succ,i64_w,i32_w]
      rfl
     refine pure_ (i:=8) (N:=some 36) (v:=?_) (a':=?_) #[y_,y_,y_,y_,y_,y_,y_,n_,y_,n_,n_,n_,n_,n_,n_,n_,n_,n_,n_,n_] rfl rfl (any_of HT_.out (by kernel_rfl)) (fun _ _ _ h=>h) (Or.inl ⟨by rfl,?_⟩) ?_ ?_;rotate_left
     ·intro w'
      go_simp;with_reducible rfl
     rotate_left
     ·simp only [Act.put,List.setIfInBounds_toArray,List.set_cons_zero,List.set_cons_succ,i64_w,i32_w]
      rfl
     refine take_ (i:=7) (N:=some 35) (v:=?_) (a':=?_) #[y_,y_,y_,y_,y_,y_,y_,y_,y_,n_,n_,n_,n_,n_,n_,n_,n_,n_,n_,n_] rfl rfl (take_ofW HT_.out HW_.out (by kernel_rfl)) (fun _ _ _ h=>h) (Or.inl ⟨by rfl,?_⟩) hHeld ?_ ?_;rotate_left
     ·rintro w' ⟨s0,s1,s2,s3,s4⟩
      go_simp;with_reducible rfl
     rotate_left
     ·simp only [Act.put,List.setIfInBounds_toArray,List.set_cons_zero,List.set_cons_succ,i64_w,i32_w]
      rfl
     refine take_ (i:=9) (N:=some 37) (v:=?_) (a':=?_) #[y_,y_,y_,y_,y_,y_,y_,y_,y_,y_,n_,n_,n_,n_,n_,n_,n_,n_,n_,n_] rfl rfl (take_ofW HT_.out HW_.out (by kernel_rfl)) (fun _ _ _ h=>h) (Or.inl ⟨by rfl,?_⟩) hHeld ?_ ?_;rotate_left
     ·rintro w' ⟨s0,s1,s2,s3,s4⟩
      go_simp;with_reducible rfl
     rotate_left
     ·simp only [Act.put,List.setIfInBounds_toArray,List.set_cons_zero,List.set_cons_succ,i64_w,i32_w]
      rfl
     refine pure_ (i:=10) (N:=some 38) (v:=?_) (a':=?_) #[y_,y_,y_,y_,y_,y_,y_,y_,y_,y_,y_,n_,n_,n_,n_,n_,n_,n_,n_,n_] rfl rfl (any_of HT_.out (by kernel_rfl)) (fun _ _ _ h=>h) (Or.inl ⟨by rfl,?_⟩) ?_ ?_;rotate_left
     ·intro w'
      go_simp;with_reducible rfl
     rotate_left
     ·simp only [Act.put,List.setIfInBounds_toArray,List.set_cons_zero,List.set_cons_succ,i64_w,i32_w]
      rfl
     refine pure_ (i:=11) (N:=some 39) (v:=?_) (a':=?_) #[y_,y_,y_,y_,y_,y_,y_,y_,y_,y_,y_,y_,n_,n_,n_,n_,n_,n_,n_,n_] rfl rfl (any_of HT_.out (by kernel_rfl)) (fun _ _ _ h=>h) (Or.inl ⟨by rfl,?_⟩) ?_ ?_;rotate_left
     ·intro w'
      go_simp;with_reducible rfl
     rotate_left
     ·simp only [Act.put,List.setIfInBounds_toArray,List.set_cons_zero,List.set_cons_succ,i64_w,i32_w]
      rfl
     refine pure_ (i:=12) (N:=some 40) (v:=?_) (a':=?_) #[y_,y_,y_,y_,y_,y_,y_,y_,y_,y_,y_,y_,y_,n_,n_,n_,n_,n_,n_,n_] rfl rfl (any_of HT_.out (by kernel_rfl)) (fun _ _ _ h=>h) (Or.inl ⟨by rfl,?_⟩) ?_ ?_;rotate_left
     ·intro w'
      go_simp;with_reducible rfl
     rotate_left
     ·simp only [Act.put,List.setIfInBounds_toArray,List.set_cons_zero,List.set_cons_succ,i64_w,i32_w]
      rfl
     refine pure_ (i:=13) (N:=some 41) (v:=undef) (a':=?_) #[y_,y_,y_,y_,y_,y_,y_,y_,y_,y_,y_,y_,y_,y_,n_,n_,n_,n_,n_,n_] rfl rfl (any_of HT_.out (by kernel_rfl)) (fun _ _ _ h=>h) (Or.inr ⟨by rfl,rfl⟩) ?_ ?_;rotate_left
     ·simp only [Act.put,List.setIfInBounds_toArray,List.set_cons_zero,List.set_cons_succ,i64_w,i32_w]
      rfl
     refine pure_ (i:=14) (N:=some 42) (v:=undef) (a':=?_) #[y_,y_,y_,y_,y_,y_,y_,y_,y_,y_,y_,y_,y_,y_,y_,n_,n_,n_,n_,n_] rfl rfl (any_of HT_.out (by kernel_rfl)) (fun _ _ _ h=>h) (Or.inr ⟨by rfl,rfl⟩) ?_ ?_;rotate_left
     ·simp only [Act.put,List.setIfInBounds_toArray,List.set_cons_zero,List.set_cons_succ,i64_w,i32_w]
      rfl
     refine pure_ (i:=15) (N:=some 43) (v:=undef) (a':=?_) #[y_,y_,y_,y_,y_,y_,y_,y_,y_,y_,y_,y_,y_,y_,y_,y_,n_,n_,n_,n_] rfl rfl (any_of HT_.out (by kernel_rfl)) (fun _ _ _ h=>h) (Or.inr ⟨by rfl,rfl⟩) ?_ ?_;rotate_left
     ·simp only [Act.put,List.setIfInBounds_toArray,List.set_cons_zero,List.set_cons_succ,i64_w,i32_w]
      rfl
     refine pure_ (i:=16) (N:=some 44) (v:=undef) (a':=?_) #[y_,y_,y_,y_,y_,y_,y_,y_,y_,y_,y_,y_,y_,y_,y_,y_,y_,n_,n_,n_] rfl rfl (any_of HT_.out (by kernel_rfl)) (fun _ _ _ h=>h) (Or.inr ⟨by rfl,rfl⟩) ?_ ?_;rotate_left
     ·simp only [Act.put,List.setIfInBounds_toArray,List.set_cons_zero,List.set_cons_succ,i64_w,i32_w]
      rfl
     refine pure_ (i:=17) (N:=some 45) (v:=undef) (a':=?_) #[y_,y_,y_,y_,y_,y_,y_,y_,y_,y_,y_,y_,y_,y_,y_,y_,y_,y_,n_,n_] rfl rfl (any_of HT_.out (by kernel_rfl)) (fun _ _ _ h=>h) (Or.inr ⟨by rfl,rfl⟩) ?_ ?_;rotate_left
     ·simp only [Act.put,List.setIfInBounds_toArray,List.set_cons_zero,List.set_cons_succ,i64_w,i32_w]
      rfl
     refine pure_ (i:=18) (N:=some 46) (v:=undef) (a':=?_) #[y_,y_,y_,y_,y_,y_,y_,y_,y_,y_,y_,y_,y_,y_,y_,y_,y_,y_,y_,n_] rfl rfl (any_of HT_.out (by kernel_rfl)) (fun _ _ _ h=>h) (Or.inr ⟨by rfl,rfl⟩) ?_ ?_;rotate_left
     ·simp only [Act.put,List.setIfInBounds_toArray,List.set_cons_zero,List.set_cons_succ,i64_w,i32_w]
      rfl
     refine pure_ (i:=19) (N:=some 47) (v:=?_) (a':=?_) #[y_,y_,y_,y_,y_,y_,y_,y_,y_,y_,y_,y_,y_,y_,y_,y_,y_,y_,y_,y_] rfl rfl (any_of HT_.out (by kernel_rfl)) (fun _ _ _ h=>h) (Or.inl ⟨by rfl,?_⟩) ?_ ?_;rotate_left
     ·intro w'
      go_simp;with_reducible rfl
     rotate_left
     ·simp only [Act.put,List.setIfInBounds_toArray,List.set_cons_zero,List.set_cons_succ,i64_w,i32_w]
      rfl
     refine done_ (done_of HT_.out (by kernel_rfl)) ?_
     try go_wp2
     go_meet
     case rel=>exact ⟨_,(true),(by first|rfl|(simp;done)|(simp [*];done)),H',⟨by first|omega|exact Nat.le_refl _⟩,⟨by (with_reducible repeat (first|apply Kd.R_alloc|apply Kd.R_drewN|apply Kd.R_drew));exact HO209.out⟩,⟨by (with_reducible repeat (first|apply Kd.R_alloc|apply Kd.R_drewN|apply Kd.R_drew));exact HO215.out⟩,⟨by (with_reducible repeat (first|apply Kd.R_alloc|apply Kd.R_drewN|apply Kd.R_drew));exact HO220.out⟩,⟨by (with_reducible repeat first|apply bkN|apply bkD|apply bkA);exact BK212.out⟩,⟨by (with_reducible repeat first|apply bkN|apply bkD|apply bkA);exact BK217.out⟩,⟨by (with_reducible repeat first|apply bkN|apply bkD|apply bkA);exact BK222.out⟩,⟨by repeat (first|(with_reducible first|exact HB.out|apply bal|apply pdN|apply bdr|refine bst ?_ GE212.out|refine bst ?_ GE217.out|refine bst ?_ GE222.out)|exact HB.out)⟩⟩
   ·rw [if_neg c25] at H
    have c25b0:(t223==t224)=false:=beq_eq_false_iff_ne.mpr c25;have c25b1:(t223 != t224)=true:=bne_iff_ne.mpr c25
    (first|rw [c25b0]|(simp only [i64_w,i32_w];rw [c25b0])|skip)
    have H':=A0_.mk H
    clear H
    try go_wp2
    have n0_:A0_ (Kd.R k75 75 ((w18.setCell ⟨gb222,0,none⟩ (.slice Ao19 t218.length co19)).setCell ⟨gb222,1,none⟩ (.int .i64 t221)) w.heap.size (fun k_=>some k_≠(.slice Ao13 t213.length co13:Value).ownBlock∧some k_≠(.slice Ao19 t218.length co19:Value).ownBlock) (.slice Ao9 t207.length co9) t207):=⟨by (with_reducible repeat (first|apply Kd.R_alloc|apply Kd.R_drewN|apply Kd.R_drew));exact Kd.R_mono (Kd.R_far (p:=⟨gb222,1,none⟩) (Kd.R_far (p:=⟨gb222,0,none⟩) (Kd.R_types HO209.out BK222.out (by decide)) (fun _ hk=>hk.2) (.slice Ao19 t218.length co19)) (fun _ hk=>hk.2) (.int .i64 t221)) (fun _ hk=>⟨hk.1.1.2,hk.1.2⟩)⟩;have n1_:A0_ (Kd.R k75 75 ((w18.setCell ⟨gb222,0,none⟩ (.slice Ao19 t218.length co19)).setCell ⟨gb222,1,none⟩ (.int .i64 t221)) w.heap.size (fun k_=>some k_≠(.slice Ao9 t207.length co9:Value).ownBlock∧some k_≠(.slice Ao19 t218.length co19:Value).ownBlock) (.slice Ao13 t213.length co13) t213):=⟨by (with_reducible repeat (first|apply Kd.R_alloc|apply Kd.R_drewN|apply Kd.R_drew));exact Kd.R_mono (Kd.R_far (p:=⟨gb222,1,none⟩) (Kd.R_far (p:=⟨gb222,0,none⟩) (Kd.R_types HO215.out BK222.out (by decide)) (fun _ hk=>hk.2) (.slice Ao19 t218.length co19)) (fun _ hk=>hk.2) (.int .i64 t221)) (fun _ hk=>⟨hk.1.1.2,hk.1.2⟩)⟩;have n2_:A0_ (Kd.R k75 75 ((w18.setCell ⟨gb222,0,none⟩ (.slice Ao19 t218.length co19)).setCell ⟨gb222,1,none⟩ (.int .i64 t221)) w.heap.size (fun k_=>some k_≠(.slice Ao9 t207.length co9:Value).ownBlock∧some k_≠(.slice Ao13 t213.length co13:Value).ownBlock) (.slice Ao19 t218.length co19) t218):=⟨by (with_reducible repeat (first|apply Kd.R_alloc|apply Kd.R_drewN|apply Kd.R_drew));exact Kd.R_mono (Kd.R_far (p:=⟨gb222,1,none⟩) (Kd.R_far (p:=⟨gb222,0,none⟩) (Kd.R_types HO220.out BK222.out (by decide)) (fun _ hk=>hk.2) (.slice Ao19 t218.length co19)) (fun _ hk=>hk.2) (.int .i64 t221)) (fun _ hk=>⟨hk.1.1.2,hk.1.2⟩)⟩;have n3_:A0_ (((w18.setCell ⟨gb222,0,none⟩ (.slice Ao19 t218.length co19)).setCell ⟨gb222,1,none⟩ (.int .i64 t221)).heap[gb212]? = some (.cells #[.slice Ao9 t207.length co9] 36 (0,0))):=⟨by (with_reducible repeat first|apply bkN|apply bkD|apply bkA);refine bkf ?_ NB212_222.out _;(with_reducible repeat first|apply bkN|apply bkD|apply bkA);refine bkf ?_ NB212_222.out _;(with_reducible repeat first|apply bkN|apply bkD|apply bkA);exact BK212.out⟩;have n4_:A0_ (((w18.setCell ⟨gb222,0,none⟩ (.slice Ao19 t218.length co19)).setCell ⟨gb222,1,none⟩ (.int .i64 t221)).heap[gb217]? = some (.cells #[.slice Ao13 t213.length co13,.int .i64 t216] 64 (0,0))):=⟨by (with_reducible repeat first|apply bkN|apply bkD|apply bkA);refine bkf ?_ NB217_222.out _;(with_reducible repeat first|apply bkN|apply bkD|apply bkA);refine bkf ?_ NB217_222.out _;(with_reducible repeat first|apply bkN|apply bkD|apply bkA);exact BK217.out⟩;have n5_:A0_ (((w18.setCell ⟨gb222,0,none⟩ (.slice Ao19 t218.length co19)).setCell ⟨gb222,1,none⟩ (.int .i64 t221)).heap[gb222]? = some (.cells #[.slice Ao19 t218.length co19,.int .i64 t221] 64 (0,0))):=⟨by (with_reducible repeat first|apply bkN|apply bkD|apply bkA);refine bkP (cs:=#[.slice Ao19 t218.length co19,.int .i64 0]) ?_ 1 _ rfl;(with_reducible repeat first|apply bkN|apply bkD|apply bkA);refine bkP (cs:=#[.slice none 0 0,.int .i64 0]) ?_ 0 _ rfl;(with_reducible repeat first|apply bkN|apply bkD|apply bkA);exact BK222.out⟩;have n6_:A0_ (Below w.heap.size w ((w18.setCell ⟨gb222,0,none⟩ (.slice Ao19 t218.length co19)).setCell ⟨gb222,1,none⟩ (.int .i64 t221))):=⟨by repeat (first|(with_reducible first|exact HB.out|apply bal|apply pdN|apply bdr|refine bst ?_ GE212.out|refine bst ?_ GE217.out|refine bst ?_ GE222.out)|exact HB.out)⟩;(try clear HO209);(try clear HO215);(try clear HO220);(try clear BK212);(try clear BK217);(try clear BK222);(try clear HB)
    generalize ((w18.setCell ⟨gb222,0,none⟩ (.slice Ao19 t218.length co19)).setCell ⟨gb222,1,none⟩ (.int .i64 t221))=w37 at n0_ n1_ n2_ n3_ n4_ n5_ n6_ ⊢
    have HO209:=n0_;have HO215:=n1_;have HO220:=n2_;have BK212:=n3_;have BK217:=n4_;have BK222:=n5_;have HB:=n6_;clear n0_ n1_ n2_ n3_ n4_ n5_ n6_;have n0_:=A0_.mk (Kd.R_drew HO209.out);have n1_:=A0_.mk (Kd.R_drew HO215.out);have n2_:=A0_.mk (Kd.R_drew HO220.out);have n3_:=A0_.mk (bkD BK212.out);have n4_:=A0_.mk (bkD BK217.out);have n5_:=A0_.mk (bkD BK222.out);have n6_:=A0_.mk (bdr HB.out);clear HO209;clear HO215;clear HO220;clear BK212;clear BK217;clear BK222;clear HB;have HO209:=n0_;have HO215:=n1_;have HO220:=n2_;have BK212:=n3_;have BK217:=n4_;have BK222:=n5_;have HB:=n6_;clear n0_ n1_ n2_ n3_ n4_ n5_ n6_;refine start_ (n:=20) (S:=fun w'=>w'.cell? ⟨gb212,0,none⟩=some (.slice Ao9 t207.length co9)) (ds:=[]) #[n_,n_,n_,n_,n_,n_,n_,n_,n_,n_,n_,n_,n_,n_,n_,n_,n_,n_,n_,n_] (by kernel_rfl) rfl rfl ((bkC BK212.out 0).trans rfl) (fun hHeld=>?_);refine with_tabW lFF.tab6 lFF.bits6 (fun HT_ HW_=>?_)
    generalize w37.drew=w38 at HO209 HO215 HO220 BK212 BK217 BK222 HB hHeld ⊢
    refine take_ (i:=0) (N:=some 28) (v:=?_) (a':=?_) #[y_,n_,n_,n_,n_,n_,n_,n_,n_,n_,n_,n_,n_,n_,n_,n_,n_,n_,n_,n_] rfl rfl (take_ofW HT_.out HW_.out (by kernel_rfl)) (fun _ _ _ h=>h) (Or.inl ⟨by rfl,?_⟩) hHeld ?_ ?_;rotate_left
    ·intro w' s0
     go_simp;with_reducible rfl
    rotate_left
    ·simp only [Act.put,List.setIfInBounds_toArray,List.set_cons_zero,List.set_cons_succ,i64_w,i32_w]
     rfl
    refine take_ (i:=2) (N:=some 30) (v:=?_) (a':=?_) #[y_,n_,y_,n_,n_,n_,n_,n_,n_,n_,n_,n_,n_,n_,n_,n_,n_,n_,n_,n_] rfl rfl (take_ofW HT_.out HW_.out (by kernel_rfl)) (fun _ _ _ h=>h) (Or.inl ⟨by rfl,?_⟩) hHeld ?_ ?_;rotate_left
    ·intro w' s0
     go_simp;with_reducible rfl
    rotate_left
    ·simp only [Act.put,List.setIfInBounds_toArray,List.set_cons_zero,List.set_cons_succ,i64_w,i32_w]
     rfl
    refine one_ (i:=1) (N:=some 29) #[y_,y_,y_,n_,n_,n_,n_,n_,n_,n_,n_,n_,n_,n_,n_,n_,n_,n_,n_,n_] rfl rfl (one_of HT_.out (by kernel_rfl)) (by decide) (fun K hK=>?_);refine goes_ Try.func24 (by kernel_rfl) rfl #[.agg #[.slice Ao9 t207.length co9]] (by rfl) rfl rfl (by (try simp only [List.map_toArray,List.map_cons,List.map_nil]);first|done|rfl|(simp only [List.length_drop,List.length_take];rfl)) ?_
    with_reducible refine (iFO.calls k _ _ t207 t223 _ ?side1 ?side2 A23.out).mono ?_
    (case side1=>repeat (first|exact (Kd.R_reads' HO209.out).2.2|(with_reducible refine Kd.C_alloc ?_ _)|(with_reducible refine Kd.C_drewN ?_ _)|(with_reducible refine Kd.C_drew ?_)))
    (case side2=>exact (Kd.R_reads' HO209.out).2.1)
    rintro e w39 ⟨rfl,hb⟩
    refine ⟨_,rfl,?_⟩;have n0_:=A0_.mk (Kd.R_below (by (with_reducible repeat (first|apply Kd.R_alloc|apply Kd.R_drewN|apply Kd.R_drew));exact HO209.out) hb);have n1_:=A0_.mk (Kd.R_below (by (with_reducible repeat (first|apply Kd.R_alloc|apply Kd.R_drewN|apply Kd.R_drew));exact HO215.out) hb);have n2_:=A0_.mk (Kd.R_below (by (with_reducible repeat (first|apply Kd.R_alloc|apply Kd.R_drewN|apply Kd.R_drew));exact HO220.out) hb);have n3_:=A0_.mk (bkB (g:=gb212) (o:=.cells #[.slice Ao9 t207.length co9] 36 (0,0)) (by (with_reducible repeat first|apply bkN|apply bkD|apply bkA);exact BK212.out) hb);have n4_:=A0_.mk (bkB (g:=gb217) (o:=.cells #[.slice Ao13 t213.length co13,.int .i64 t216] 64 (0,0)) (by (with_reducible repeat first|apply bkN|apply bkD|apply bkA);exact BK217.out) hb);have n5_:=A0_.mk (bkB (g:=gb222) (o:=.cells #[.slice Ao19 t218.length co19,.int .i64 t221] 64 (0,0)) (by (with_reducible repeat first|apply bkN|apply bkD|apply bkA);exact BK222.out) hb);have n6_:=A0_.mk (bsp (by repeat (first|(with_reducible first|exact HB.out|apply bal|apply pdN|apply bdr|refine bst ?_ GE212.out|refine bst ?_ GE217.out|refine bst ?_ GE222.out)|exact HB.out)) hb);clear HO209;clear HO215;clear HO220;clear BK212;clear BK217;clear BK222;clear HB;have HO209:=n0_;have HO215:=n1_;have HO220:=n2_;have BK212:=n3_;have BK217:=n4_;have BK222:=n5_;have HB:=n6_;clear n0_ n1_ n2_ n3_ n4_ n5_ n6_;(try clear hb);(try clear hb2);(try clear hk);(try clear hi);refine hK.out _ _ ((bkC BK212.out 0).trans rfl) (fun hHeld=>?_);clear hK K;refine norm_ (a':=?_) ?_ ?_;rotate_left
    ·show Act.put _ (some 29) _=_
     simp only [Act.put,List.setIfInBounds_toArray,List.set_cons_zero,List.set_cons_succ,i64_w,i32_w];rfl
    refine one_ (i:=3) (N:=some 31) #[y_,y_,y_,y_,n_,n_,n_,n_,n_,n_,n_,n_,n_,n_,n_,n_,n_,n_,n_,n_] rfl rfl (one_of HT_.out (by kernel_rfl)) (by decide) (fun K hK=>?_);refine goes_ Try.func22 (by kernel_rfl) rfl #[.agg #[.slice Ao9 t207.length co9]] (by rfl) rfl rfl (by (try simp only [List.map_toArray,List.map_cons,List.map_nil]);first|done|rfl|(simp only [List.length_drop,List.length_take];rfl)) ?_
    with_reducible refine (sFO.calls k _ _ t207 t224 _ ?side1 ?side2 A24.out).mono ?_
    (case side1=>repeat (first|exact (Kd.R_reads' HO209.out).2.2|(with_reducible refine Kd.C_alloc ?_ _)|(with_reducible refine Kd.C_drewN ?_ _)|(with_reducible refine Kd.C_drew ?_)))
    (case side2=>exact (Kd.R_reads' HO209.out).2.1)
    rintro e w40 ⟨rfl,hb⟩
    refine ⟨_,rfl,?_⟩;have n0_:=A0_.mk (Kd.R_below (by (with_reducible repeat (first|apply Kd.R_alloc|apply Kd.R_drewN|apply Kd.R_drew));exact HO209.out) hb);have n1_:=A0_.mk (Kd.R_below (by (with_reducible repeat (first|apply Kd.R_alloc|apply Kd.R_drewN|apply Kd.R_drew));exact HO215.out) hb);have n2_:=A0_.mk (Kd.R_below (by (with_reducible repeat (first|apply Kd.R_alloc|apply Kd.R_drewN|apply Kd.R_drew));exact HO220.out) hb);have n3_:=A0_.mk (bkB (g:=gb212) (o:=.cells #[.slice Ao9 t207.length co9] 36 (0,0)) (by (with_reducible repeat first|apply bkN|apply bkD|apply bkA);exact BK212.out) hb);have n4_:=A0_.mk (bkB (g:=gb217) (o:=.cells #[.slice Ao13 t213.length co13,.int .i64 t216] 64 (0,0)) (by (with_reducible repeat first|apply bkN|apply bkD|apply bkA);exact BK217.out) hb);have n5_:=A0_.mk (bkB (g:=gb222) (o:=.cells #[.slice Ao19 t218.length co19,.int .i64 t221] 64 (0,0)) (by (with_reducible repeat first|apply bkN|apply bkD|apply bkA);exact BK222.out) hb);have n6_:=A0_.mk (bsp (by repeat (first|(with_reducible first|exact HB.out|apply bal|apply pdN|apply bdr|refine bst ?_ GE212.out|refine bst ?_ GE217.out|refine bst ?_ GE222.out)|exact HB.out)) hb);clear HO209;clear HO215;clear HO220;clear BK212;clear BK217;clear BK222;clear HB;have HO209:=n0_;have HO215:=n1_;have HO220:=n2_;have BK212:=n3_;have BK217:=n4_;have BK222:=n5_;have HB:=n6_;clear n0_ n1_ n2_ n3_ n4_ n5_ n6_;(try clear hb);(try clear hb2);(try clear hk);(try clear hi);refine hK.out _ _ ((bkC BK212.out 0).trans rfl) (fun hHeld=>?_);clear hK K;refine norm_ (a':=?_) ?_ ?_;rotate_left
    ·show Act.put _ (some 31) _=_
     simp only [Act.put,List.setIfInBounds_toArray,List.set_cons_zero,List.set_cons_succ,i64_w,i32_w];rfl
    refine pure_ (i:=4) (N:=some 32) (v:=?_) (a':=?_) #[y_,y_,y_,y_,y_,n_,n_,n_,n_,n_,n_,n_,n_,n_,n_,n_,n_,n_,n_,n_] rfl rfl (any_of HT_.out (by kernel_rfl)) (fun _ _ _ h=>h) (Or.inl ⟨by rfl,?_⟩) ?_ ?_;rotate_left
    ·intro w'
     go_simp;with_reducible rfl
    rotate_left
    ·simp only [Act.put,List.setIfInBounds_toArray,List.set_cons_zero,List.set_cons_succ,i64_w,i32_w]
     rfl
    refine pure_ (i:=5) (N:=some 33) (v:=?_) (a':=?_) #[y_,y_,y_,y_,y_,y_,n_,n_,n_,n_,n_,n_,n_,n_,n_,n_,n_,n_,n_,n_] rfl rfl (any_of HT_.out (by kernel_rfl)) (fun _ _ _ h=>h) (Or.inl ⟨by rfl,?_⟩) ?_ ?_;rotate_left
    ·intro w'
     go_simp;with_reducible rfl
    rotate_left
    ·simp only [Act.put,List.setIfInBounds_toArray,List.set_cons_zero,List.set_cons_succ,i64_w,i32_w]
     rfl
    refine pure_ (i:=6) (N:=some 34) (v:=undef) (a':=?_) #[y_,y_,y_,y_,y_,y_,y_,n_,n_,n_,n_,n_,n_,n_,n_,n_,n_,n_,n_,n_] rfl rfl (any_of HT_.out (by kernel_rfl)) (fun _ _ _ h=>h) (Or.inr ⟨by rfl,rfl⟩) ?_ ?_;rotate_left
    ·simp only [Act.put,List.setIfInBounds_toArray,List.set_cons_zero,List.set_cons_succ,i64_w,i32_w]
     rfl
    refine pure_ (i:=7) (N:=some 35) (v:=undef) (a':=?_) #[y_,y_,y_,y_,y_,y_,y_,y_,n_,n_,n_,n_,n_,n_,n_,n_,n_,n_,n_,n_] rfl rfl (any_of HT_.out (by kernel_rfl)) (fun _ _ _ h=>h) (Or.inr ⟨by rfl,rfl⟩) ?_ ?_;rotate_left
    ·simp only [Act.put,List.setIfInBounds_toArray,List.set_cons_zero,List.set_cons_succ,i64_w,i32_w]
     rfl
    refine pure_ (i:=8) (N:=some 36) (v:=undef) (a':=?_) #[y_,y_,y_,y_,y_,y_,y_,y_,y_,n_,n_,n_,n_,n_,n_,n_,n_,n_,n_,n_] rfl rfl (any_of HT_.out (by kernel_rfl)) (fun _ _ _ h=>h) (Or.inr ⟨by rfl,rfl⟩) ?_ ?_;rotate_left
    ·simp only [Act.put,List.setIfInBounds_toArray,List.set_cons_zero,List.set_cons_succ,i64_w,i32_w]
     rfl
    refine pure_ (i:=9) (N:=some 37) (v:=undef) (a':=?_) #[y_,y_,y_,y_,y_,y_,y_,y_,y_,y_,n_,n_,n_,n_,n_,n_,n_,n_,n_,n_] rfl rfl (any_of HT_.out (by kernel_rfl)) (fun _ _ _ h=>h) (Or.inr ⟨by rfl,rfl⟩) ?_ ?_;rotate_left
    ·simp only [Act.put,List.setIfInBounds_toArray,List.set_cons_zero,List.set_cons_succ,i64_w,i32_w]
     rfl
    refine pure_ (i:=10) (N:=some 38) (v:=undef) (a':=?_) #[y_,y_,y_,y_,y_,y_,y_,y_,y_,y_,y_,n_,n_,n_,n_,n_,n_,n_,n_,n_] rfl rfl (any_of HT_.out (by kernel_rfl)) (fun _ _ _ h=>h) (Or.inr ⟨by rfl,rfl⟩) ?_ ?_;rotate_left
    ·simp only [Act.put,List.setIfInBounds_toArray,List.set_cons_zero,List.set_cons_succ,i64_w,i32_w]
     rfl
    refine pure_ (i:=11) (N:=some 39) (v:=?_) (a':=?_) #[y_,y_,y_,y_,y_,y_,y_,y_,y_,y_,y_,y_,n_,n_,n_,n_,n_,n_,n_,n_] rfl rfl (any_of HT_.out (by kernel_rfl)) (fun _ _ _ h=>h) (Or.inl ⟨by rfl,?_⟩) ?_ ?_;rotate_left
    ·intro w'
     go_simp;with_reducible rfl
    rotate_left
    ·simp only [Act.put,List.setIfInBounds_toArray,List.set_cons_zero,List.set_cons_succ,i64_w,i32_w]
     rfl
    refine pure_ (i:=12) (N:=some 40) (v:=?_) (a':=?_) #[y_,y_,y_,y_,y_,y_,y_,y_,y_,y_,y_,y_,y_,n_,n_,n_,n_,n_,n_,n_] rfl rfl (any_of HT_.out (by kernel_rfl)) (fun _ _ _ h=>h) (Or.inl ⟨by rfl,?_⟩) ?_ ?_;rotate_left
    ·intro w'
     go_simp;with_reducible rfl
    rotate_left
    ·simp only [Act.put,List.setIfInBounds_toArray,List.set_cons_zero,List.set_cons_succ,i64_w,i32_w]
     rfl
    refine pure_ (i:=13) (N:=some 41) (v:=undef) (a':=?_) #[y_,y_,y_,y_,y_,y_,y_,y_,y_,y_,y_,y_,y_,y_,n_,n_,n_,n_,n_,n_] rfl rfl (any_of HT_.out (by kernel_rfl)) (fun _ _ _ h=>h) (Or.inr ⟨by rfl,rfl⟩) ?_ ?_;rotate_left
    ·simp only [Act.put,List.setIfInBounds_toArray,List.set_cons_zero,List.set_cons_succ,i64_w,i32_w]
     rfl
    refine pure_ (i:=14) (N:=some 42) (v:=undef) (a':=?_) #[y_,y_,y_,y_,y_,y_,y_,y_,y_,y_,y_,y_,y_,y_,y_,n_,n_,n_,n_,n_] rfl rfl (any_of HT_.out (by kernel_rfl)) (fun _ _ _ h=>h) (Or.inr ⟨by rfl,rfl⟩) ?_ ?_;rotate_left
    ·simp only [Act.put,List.setIfInBounds_toArray,List.set_cons_zero,List.set_cons_succ,i64_w,i32_w]
     rfl
    refine pure_ (i:=15) (N:=some 43) (v:=undef) (a':=?_) #[y_,y_,y_,y_,y_,y_,y_,y_,y_,y_,y_,y_,y_,y_,y_,y_,n_,n_,n_,n_] rfl rfl (any_of HT_.out (by kernel_rfl)) (fun _ _ _ h=>h) (Or.inr ⟨by rfl,rfl⟩) ?_ ?_;rotate_left
    ·simp only [Act.put,List.setIfInBounds_toArray,List.set_cons_zero,List.set_cons_succ,i64_w,i32_w]
     rfl
    refine pure_ (i:=16) (N:=some 44) (v:=undef) (a':=?_) #[y_,y_,y_,y_,y_,y_,y_,y_,y_,y_,y_,y_,y_,y_,y_,y_,y_,n_,n_,n_] rfl rfl (any_of HT_.out (by kernel_rfl)) (fun _ _ _ h=>h) (Or.inr ⟨by rfl,rfl⟩) ?_ ?_;rotate_left
    ·simp only [Act.put,List.setIfInBounds_toArray,List.set_cons_zero,List.set_cons_succ,i64_w,i32_w]
     rfl
    refine pure_ (i:=17) (N:=some 45) (v:=undef) (a':=?_) #[y_,y_,y_,y_,y_,y_,y_,y_,y_,y_,y_,y_,y_,y_,y_,y_,y_,y_,n_,n_] rfl rfl (any_of HT_.out (by kernel_rfl)) (fun _ _ _ h=>h) (Or.inr ⟨by rfl,rfl⟩) ?_ ?_;rotate_left
    ·simp only [Act.put,List.setIfInBounds_toArray,List.set_cons_zero,List.set_cons_succ,i64_w,i32_w]
     rfl
    refine pure_ (i:=18) (N:=some 46) (v:=undef) (a':=?_) #[y_,y_,y_,y_,y_,y_,y_,y_,y_,y_,y_,y_,y_,y_,y_,y_,y_,y_,y_,n_] rfl rfl (any_of HT_.out (by kernel_rfl)) (fun _ _ _ h=>h) (Or.inr ⟨by rfl,rfl⟩) ?_ ?_;rotate_left
    ·simp only [Act.put,List.setIfInBounds_toArray,List.set_cons_zero,List.set_cons_succ,i64_w,i32_w]
     rfl
    refine pure_ (i:=19) (N:=some 47) (v:=?_) (a':=?_) #[y_,y_,y_,y_,y_,y_,y_,y_,y_,y_,y_,y_,y_,y_,y_,y_,y_,y_,y_,y_] rfl rfl (any_of HT_.out (by kernel_rfl)) (fun _ _ _ h=>h) (Or.inl ⟨by rfl,?_⟩) ?_ ?_;rotate_left
    ·intro w'
     go_simp;with_reducible rfl
    rotate_left
    ·simp only [Act.put,List.setIfInBounds_toArray,List.set_cons_zero,List.set_cons_succ,i64_w,i32_w]
     rfl
    refine done_ (done_of HT_.out (by kernel_rfl)) ?_
    try go_wp2
    go_meet
    case rel=>exact ⟨_,(true),(by first|rfl|(simp;done)|(simp [*];done)),H',⟨by first|omega|exact Nat.le_refl _⟩,⟨by (with_reducible repeat (first|apply Kd.R_alloc|apply Kd.R_drewN|apply Kd.R_drew));exact HO209.out⟩,⟨by (with_reducible repeat (first|apply Kd.R_alloc|apply Kd.R_drewN|apply Kd.R_drew));exact HO215.out⟩,⟨by (with_reducible repeat (first|apply Kd.R_alloc|apply Kd.R_drewN|apply Kd.R_drew));exact HO220.out⟩,⟨by (with_reducible repeat first|apply bkN|apply bkD|apply bkA);exact BK212.out⟩,⟨by (with_reducible repeat first|apply bkN|apply bkD|apply bkA);exact BK217.out⟩,⟨by (with_reducible repeat first|apply bkN|apply bkD|apply bkA);exact BK222.out⟩,⟨by repeat (first|(with_reducible first|exact HB.out|apply bal|apply pdN|apply bdr|refine bst ?_ GE212.out|refine bst ?_ GE217.out|refine bst ?_ GE222.out)|exact HB.out)⟩⟩
  case rest=>
   clear HC6;(try clear c2);(try clear p2);(try clear c3);(try clear c22);(try clear c24);(try clear c25);(try clear c25b0);(try clear c25b1);(try clear c26);(try clear c26b0);(try clear c26b1);(try clear c37);obtain ⟨kq,x47_5,rfl,HA,HJ5,HO_213000,HO_218000,HO_223000,BK212,BK217,BK222,HB⟩:=hcut
   cases kq with
   |zero=>exact absurd HA.out (by simp [lFF.j0])
   |succ kj5=>
    have H:=HA.out;clear HA;simp only [lFF.j0] at H
    by_cases c41:x47_5=true
    ·subst c41
     have H1:(none)=some r:=by rw [if_pos rfl] at H;exact H
     clear H;have H:=H1;clear H1;exact absurd H (by simp)
    ·replace c41:=Bool.eq_false_iff.mpr c41
     subst c41;have H1:(if t216 < 0 then (some true) else ((impl_Fields.f kj5 t207 t210).bind fun t226=>((impl_Fields.f kj5 t213 t216).bind fun t229=>(if (t229.length:Int)=(wrap64 ((t226.length:Int)+1)) then (if 0≤(t226.length:Int) then (if (t226.length:Int) < (t229.length:Int) then (if (rdOf ByteArray.empty t229 (t226.length:Int)).toList=t211.toList then ((impl_FieldAt.f kj5 t213 t216 t211).bind fun t233=>(if t233=(t226.length:Int) then ((iFO.f kj5 t213).bind fun t234=>(lFF.j1 kj5 t210 t211 t226 t229 (t234 != 0) t213 t216)) else (lFF.j1 kj5 t210 t211 t226 t229 true t213 t216))) else (lFF.j1 kj5 t210 t211 t226 t229 true t213 t216)) else (none)) else (none)) else (lFF.j1 kj5 t210 t211 t226 t229 true t213 t216)))))=some r:=by rw [if_neg (show ¬ (false=true) by decide)] at H;exact H
     clear H;have H:=H1;clear H1
     by_cases c42:t216 < 0
     ·rw [if_pos c42] at H
      have c42b0:decide (t216 < 0)=true:=decide_eq_true c42;clear c42
      obtain rfl:=Option.some.inj H
      have hnb43:=NB217_212.out;have hnc43:=NB212_217.out;have hnb44:=NB217_222.out;have hnc44:=NB222_217.out;have hcz45_0:wc.cell? ⟨gb217,0,none⟩=some (.slice Ao13 t213.length co13):=(bkC BK217.out 0).trans rfl
      have hcz45_1:wc.cell? ⟨gb217,1,none⟩=some (.int .i64 t216):=(bkC BK217.out 1).trans rfl
      have hfz45_0:=bkF BK217.out 0;have hfz45_1:=bkF BK217.out 1;go_wp2;go_ret;exact ⟨by first|rfl|(simp [errW_none,errW_some] <;> rfl)|(simp [*,errW_none,errW_some] <;> rfl),by repeat (first|(with_reducible first|exact HB.out|apply bal|apply pdN|apply bdr|refine bst ?_ GE212.out|refine bst ?_ GE217.out|refine bst ?_ GE222.out)|exact HB.out)⟩
     ·rw [if_neg c42] at H
      have c42b0:decide (t216 < 0)=false:=decide_eq_false c42;clear c42;replace H:=Option.bind_eq_some_iff.mp H;obtain ⟨t226,A460,H⟩:=H
      replace H:((impl_Fields.f kj5 t213 t216).bind fun t229=>(if (t229.length:Int)=(wrap64 ((t226.length:Int)+1)) then (if 0≤(t226.length:Int) then (if (t226.length:Int) < (t229.length:Int) then (if (rdOf ByteArray.empty t229 (t226.length:Int)).toList=t211.toList then ((impl_FieldAt.f kj5 t213 t216 t211).bind fun t233=>(if t233=(t226.length:Int) then ((iFO.f kj5 t213).bind fun t234=>(lFF.j1 kj5 t210 t211 t226 t229 (t234 != 0) t213 t216)) else (lFF.j1 kj5 t210 t211 t226 t229 true t213 t216))) else (lFF.j1 kj5 t210 t211 t226 t229 true t213 t216)) else (none)) else (none)) else (lFF.j1 kj5 t210 t211 t226 t229 true t213 t216)))=some r:=H
      have A46:=A0_.mk A460;clear A460;replace H:=Option.bind_eq_some_iff.mp H;obtain ⟨t229,A470,H⟩:=H
      replace H:(if (t229.length:Int)=(wrap64 ((t226.length:Int)+1)) then (if 0≤(t226.length:Int) then (if (t226.length:Int) < (t229.length:Int) then (if (rdOf ByteArray.empty t229 (t226.length:Int)).toList=t211.toList then ((impl_FieldAt.f kj5 t213 t216 t211).bind fun t233=>(if t233=(t226.length:Int) then ((iFO.f kj5 t213).bind fun t234=>(lFF.j1 kj5 t210 t211 t226 t229 (t234 != 0) t213 t216)) else (lFF.j1 kj5 t210 t211 t226 t229 true t213 t216))) else (lFF.j1 kj5 t210 t211 t226 t229 true t213 t216)) else (none)) else (none)) else (lFF.j1 kj5 t210 t211 t226 t229 true t213 t216))=some r:=H
      have A47:=A0_.mk A470;clear A470;have HC48:=A0_.mk H;clear H;have hnb49:=NB217_212.out;have hnc49:=NB212_217.out;have hnb50:=NB217_222.out;have hnc50:=NB222_217.out;have hcz51_0:wc.cell? ⟨gb217,0,none⟩=some (.slice Ao13 t213.length co13):=(bkC BK217.out 0).trans rfl
      have hcz51_1:wc.cell? ⟨gb217,1,none⟩=some (.int .i64 t216):=(bkC BK217.out 1).trans rfl
      have hfz51_0:=bkF BK217.out 0;have hfz51_1:=bkF BK217.out 1;have hnb52:=NB212_222.out;have hnc52:=NB222_212.out;have hcz53_0:wc.cell? ⟨gb212,0,none⟩=some (.slice Ao9 t207.length co9):=(bkC BK212.out 0).trans rfl
      have hfz53_0:=bkF BK212.out 0
      go_upto_region 12 with (first|((with_reducible refine gtC (f:=29) rfl ?_);refine goesL_ (some 53) rfl rfl Try.func29 (by kernel_rfl) rfl #[.agg #[.slice Ao9 t207.length co9],.int .i64 t210] rfl (by (try simp only [List.map_toArray,List.map_cons,List.map_nil]);first|done|rfl|(simp only [List.length_drop,List.length_take];rfl)) ?_;(with_reducible refine (impl_Fields.calls kj5 _ _ t207 t210 t226 _ ?side1 ?side2 A46.out).mono ?_);(case side1=>repeat (first|exact (Kd.R_reads' HO_213000.out).2.2|(with_reducible refine Kd.C_alloc ?_ _)|(with_reducible refine Kd.C_drewN ?_ _)|(with_reducible refine Kd.C_drew ?_)));(case side2=>exact (Kd.R_reads' HO_213000.out).2.1);rintro e w54 ⟨v227,rfl,ho0,hb⟩;refine ⟨_,rfl,?_⟩;have n0_:=A0_.mk (Kd.R_below (by (with_reducible repeat (first|apply Kd.R_alloc|apply Kd.R_drewN|apply Kd.R_drew));exact HO_213000.out) hb);have n1_:=A0_.mk (Kd.R_below (by (with_reducible repeat (first|apply Kd.R_alloc|apply Kd.R_drewN|apply Kd.R_drew));exact HO_218000.out) hb);have n2_:=A0_.mk (Kd.R_below (by (with_reducible repeat (first|apply Kd.R_alloc|apply Kd.R_drewN|apply Kd.R_drew));exact HO_223000.out) hb);have n3_:=A0_.mk (Kd.R_lower ho0 (bsz (by repeat (first|(with_reducible first|exact HB.out|apply bal|apply pdN|apply bdr|refine bst ?_ GE212.out|refine bst ?_ GE217.out|refine bst ?_ GE222.out)|exact HB.out))));have n4_:=A0_.mk (bkB (g:=gb212) (o:=.cells #[.slice Ao9 t207.length co9] 36 (0,0)) (by (with_reducible repeat first|apply bkN|apply bkD|apply bkA);exact BK212.out) hb);have n5_:=A0_.mk (bkB (g:=gb217) (o:=.cells #[.slice Ao13 t213.length co13,.int .i64 t216] 64 (0,0)) (by (with_reducible repeat first|apply bkN|apply bkD|apply bkA);exact BK217.out) hb);have n6_:=A0_.mk (bkB (g:=gb222) (o:=.cells #[.slice Ao19 t218.length co19,.int .i64 t221] 64 (0,0)) (by (with_reducible repeat first|apply bkN|apply bkD|apply bkA);exact BK222.out) hb);have n7_:=A0_.mk (bsp (by repeat (first|(with_reducible first|exact HB.out|apply bal|apply pdN|apply bdr|refine bst ?_ GE212.out|refine bst ?_ GE217.out|refine bst ?_ GE222.out)|exact HB.out)) hb);clear HO_213000;clear HO_218000;clear HO_223000;clear BK212;clear BK217;clear BK222;clear HB;have HO_213000:=n0_;have HO_218000:=n1_;have HO_223000:=n2_;have HO228:=n3_;have BK212:=n4_;have BK217:=n5_;have BK222:=n6_;have HB:=n7_;clear n0_ n1_ n2_ n3_ n4_ n5_ n6_ n7_;(try clear hb);(try clear hb2);(try clear hk);(try clear hi);(try clear ho0);have hcz55_0:w54.cell? ⟨gb217,0,none⟩=some (.slice Ao13 t213.length co13):=(bkC BK217.out 0).trans rfl;have hcz55_1:w54.cell? ⟨gb217,1,none⟩=some (.int .i64 t216):=(bkC BK217.out 1).trans rfl;have hfz55_0:=bkF BK217.out 0;have hfz55_1:=bkF BK217.out 1)|((with_reducible refine gtC (f:=29) rfl ?_);refine goesL_ (some 58) rfl rfl Try.func29 (by kernel_rfl) rfl #[.agg #[.slice Ao13 t213.length co13],.int .i64 t216] rfl (by (try simp only [List.map_toArray,List.map_cons,List.map_nil]);first|done|rfl|(simp only [List.length_drop,List.length_take];rfl)) ?_;(with_reducible refine (impl_Fields.calls kj5 _ _ t213 t216 t229 _ ?side1 ?side2 A47.out).mono ?_);(case side1=>repeat (first|exact (Kd.R_reads' HO_218000.out).2.2|(with_reducible refine Kd.C_alloc ?_ _)|(with_reducible refine Kd.C_drewN ?_ _)|(with_reducible refine Kd.C_drew ?_)));(case side2=>exact (Kd.R_reads' HO_218000.out).2.1);rintro e w56 ⟨v230,rfl,ho0,hb⟩;refine ⟨_,rfl,?_⟩;have n0_:=A0_.mk (Kd.R_below (by (with_reducible repeat (first|apply Kd.R_alloc|apply Kd.R_drewN|apply Kd.R_drew));exact HO_213000.out) hb);have n1_:=A0_.mk (Kd.R_below (by (with_reducible repeat (first|apply Kd.R_alloc|apply Kd.R_drewN|apply Kd.R_drew));exact HO_218000.out) hb);have n2_:=A0_.mk (Kd.R_below (by (with_reducible repeat (first|apply Kd.R_alloc|apply Kd.R_drewN|apply Kd.R_drew));exact HO_223000.out) hb);have n3_:=A0_.mk (Kd.R_elder' (by (with_reducible repeat (first|apply Kd.R_alloc|apply Kd.R_drewN|apply Kd.R_drew));exact HO228.out) (Kd.R_base ho0) hb);have n4_:=A0_.mk (Kd.R_lower (Kd.R_new' ho0 (Kd.R_lt (by (with_reducible repeat (first|apply Kd.R_alloc|apply Kd.R_drewN|apply Kd.R_drew));exact HO228.out))) (bsz (by repeat (first|(with_reducible first|exact HB.out|apply bal|apply pdN|apply bdr|refine bst ?_ GE212.out|refine bst ?_ GE217.out|refine bst ?_ GE222.out)|exact HB.out))));have n5_:=A0_.mk (bkB (g:=gb212) (o:=.cells #[.slice Ao9 t207.length co9] 36 (0,0)) (by (with_reducible repeat first|apply bkN|apply bkD|apply bkA);exact BK212.out) hb);have n6_:=A0_.mk (bkB (g:=gb217) (o:=.cells #[.slice Ao13 t213.length co13,.int .i64 t216] 64 (0,0)) (by (with_reducible repeat first|apply bkN|apply bkD|apply bkA);exact BK217.out) hb);have n7_:=A0_.mk (bkB (g:=gb222) (o:=.cells #[.slice Ao19 t218.length co19,.int .i64 t221] 64 (0,0)) (by (with_reducible repeat first|apply bkN|apply bkD|apply bkA);exact BK222.out) hb);have n8_:=A0_.mk (bsp (by repeat (first|(with_reducible first|exact HB.out|apply bal|apply pdN|apply bdr|refine bst ?_ GE212.out|refine bst ?_ GE217.out|refine bst ?_ GE222.out)|exact HB.out)) hb);clear HO_213000;clear HO_218000;clear HO_223000;clear HO228;clear BK212;clear BK217;clear BK222;clear HB;have HO_213000:=n0_;have HO_218000:=n1_;have HO_223000:=n2_;have HO228:=n3_;have HO231:=n4_;have BK212:=n5_;have BK217:=n6_;have BK222:=n7_;have HB:=n8_;clear n0_ n1_ n2_ n3_ n4_ n5_ n6_ n7_ n8_;(try clear hb);(try clear hb2);(try clear hk);(try clear hi);(try clear ho0)))
      (try simp only [Act.put,List.setIfInBounds_toArray,List.set_cons_zero,List.set_cons_succ])
      go_cut [90] (fun v90 wc=>∃ (kq:Nat) (x90_47:Bool),v90=.bool x90_47∧A0_ (lFF.j1 kq t210 t211 t226 t229 x90_47 t213 t216=some r)∧A0_ (kq≤kj5)∧A0_ (Kd.R Kd.string 9 wc w.heap.size (fun k_=>some k_≠(v230:Value).ownBlock) v227 t226)∧A0_ (Kd.R Kd.string 9 wc w.heap.size (fun k_=>some k_≠(v227:Value).ownBlock) v230 t229)∧A0_ (Kd.R k75 75 wc w.heap.size (fun k_=>some k_≠((.slice Ao13 t213.length co13):Value).ownBlock∧some k_≠((.slice Ao19 t218.length co19):Value).ownBlock) (.slice Ao9 t207.length co9) t207)∧A0_ (Kd.R k75 75 wc w.heap.size (fun k_=>some k_≠((.slice Ao9 t207.length co9):Value).ownBlock∧some k_≠((.slice Ao19 t218.length co19):Value).ownBlock) (.slice Ao13 t213.length co13) t213)∧A0_ (Kd.R k75 75 wc w.heap.size (fun k_=>some k_≠((.slice Ao9 t207.length co9):Value).ownBlock∧some k_≠((.slice Ao13 t213.length co13):Value).ownBlock) (.slice Ao19 t218.length co19) t218)∧A0_ (wc.heap[gb212]? = some (.cells #[(.slice Ao9 t207.length co9)] 36 (0,0)))∧A0_ (wc.heap[gb217]? = some (.cells #[(.slice Ao13 t213.length co13),.int .i64 t216] 64 (0,0)))∧A0_ (wc.heap[gb222]? = some (.cells #[(.slice Ao19 t218.length co19),.int .i64 t221] 64 (0,0)))∧A0_ (Below w.heap.size w wc))
      case first=>
       have H:=HC48.out;clear HC48
       by_cases c57:(t229.length:Int)=(wrap64 ((t226.length:Int)+1))
       ·rw [if_pos c57] at H
        have c57b0:((t229.length:Int)==(wrap64 ((t226.length:Int)+1)))=true:=beq_iff_eq.mpr c57;have c57b1:((t229.length:Int) != (wrap64 ((t226.length:Int)+1)))=false:=bne_eq_false_iff_eq.mpr c57;clear c57
        (first|rw [c57b0]|(simp only [i64_w,i32_w];rw [c57b0])|skip)
        by_cases c58:0≤(t226.length:Int)
        ·rw [if_pos c58] at H
         have c58b0:decide (0≤(t226.length:Int))=true:=decide_eq_true c58;have c58b1:decide (0≤t226.length)=true:=decide_eq_true (by omega);clear c58
         by_cases c59:(t226.length:Int) < (t229.length:Int)
         ·rw [if_pos c59] at H
          have c59b0:decide ((t226.length:Int) < (t229.length:Int))=true:=decide_eq_true c59;have c59b1:decide (t226.length < t229.length)=true:=decide_eq_true (Int.ofNat_lt.mp c59);clear c59
          by_cases c60:(rdOf ByteArray.empty t229 (t226.length:Int)).toList=t211.toList
          ·rw [if_pos c60] at H
           have c60b0:((rdOf ByteArray.empty t229 (t226.length:Int)).toList==t211.toList)=true:=beq_iff_eq.mpr c60;have c60b1:((rdOf ByteArray.empty t229 (t226.length:Int)).toList != t211.toList)=false:=bne_eq_false_iff_eq.mpr c60;clear c60;replace H:=Option.bind_eq_some_iff.mp H;obtain ⟨t233,A610,H⟩:=H
           replace H:(if t233=(t226.length:Int) then ((iFO.f kj5 t213).bind fun t234=>(lFF.j1 kj5 t210 t211 t226 t229 (t234 != 0) t213 t216)) else (lFF.j1 kj5 t210 t211 t226 t229 true t213 t216))=some r:=H
           have A61:=A0_.mk A610;clear A610
           by_cases c62:t233=(t226.length:Int)
           ·rw [if_pos c62] at H
            have c62b0:(t233==(t226.length:Int))=true:=beq_iff_eq.mpr c62;have c62b1:(t233 != (t226.length:Int))=false:=bne_eq_false_iff_eq.mpr c62;clear c62;replace H:=Option.bind_eq_some_iff.mp H;obtain ⟨t234,A630,H⟩:=H
            replace H:(lFF.j1 kj5 t210 t211 t226 t229 (t234 != 0) t213 t216)=some r:=H
            have A63:=A0_.mk A630;clear A630
            have H':=A0_.mk H
            clear H;obtain ⟨Ao64,co64,eo64⟩:=Kd.R_slice HO231.out;subst eo64;obtain ⟨Ao65,co65,eo65⟩:=Kd.R_slice HO228.out;subst eo65;have p232:0≤((t226.length:Int):Int):=of_decide_eq_true (by first|(with_reducible assumption)|assumption)
            have q232:(t226.length:Int) < (t229.length:Int):=of_decide_eq_true (by first|(with_reducible assumption)|assumption)
            obtain ⟨ad232,e232,hx232_0⟩:=Kd.at_string (Kd.R_reads' HO231.out).2.2 (t226.length:Int) p232 q232;cases e232
            (try simp only [Go.IntWalk.toNatUp] at hx232_0)
            replace p232:=eq_true p232;replace q232:=eq_true q232;have hnb66:=NB217_212.out;have hnc66:=NB212_217.out;have hnb67:=NB217_222.out;have hnc67:=NB222_217.out;have hcz68_0:w56.cell? ⟨gb217,0,none⟩=some (.slice Ao13 t213.length co13):=(bkC BK217.out 0).trans rfl
            have hcz68_1:w56.cell? ⟨gb217,1,none⟩=some (.int .i64 t216):=(bkC BK217.out 1).trans rfl
            have hfz68_0:=bkF BK217.out 0;have hfz68_1:=bkF BK217.out 1
            go_wp2_with (first|(go_at_call 27;(with_reducible refine (impl_FieldAt.calls kj5 _ _ t213 t216 t211 t233 _ ?side1 ?side2 A61.out).mono ?_);(case side1=>repeat (first|exact (Kd.R_reads' HO_218000.out).2.2|(with_reducible refine Kd.C_alloc ?_ _)|(with_reducible refine Kd.C_drewN ?_ _)|(with_reducible refine Kd.C_drew ?_)));(case side2=>exact (Kd.R_reads' HO_218000.out).2.1);rintro e w69 ⟨rfl,hb⟩;have n0_:=A0_.mk (Kd.R_below (by (with_reducible repeat (first|apply Kd.R_alloc|apply Kd.R_drewN|apply Kd.R_drew));exact HO_213000.out) hb);have n1_:=A0_.mk (Kd.R_below (by (with_reducible repeat (first|apply Kd.R_alloc|apply Kd.R_drewN|apply Kd.R_drew));exact HO_218000.out) hb);have n2_:=A0_.mk (Kd.R_below (by (with_reducible repeat (first|apply Kd.R_alloc|apply Kd.R_drewN|apply Kd.R_drew));exact HO_223000.out) hb);have n3_:=A0_.mk (Kd.R_below (by (with_reducible repeat (first|apply Kd.R_alloc|apply Kd.R_drewN|apply Kd.R_drew));exact HO228.out) hb);have n4_:=A0_.mk (Kd.R_below (by (with_reducible repeat (first|apply Kd.R_alloc|apply Kd.R_drewN|apply Kd.R_drew));exact HO231.out) hb);have n5_:=A0_.mk (bkB (g:=gb212) (o:=.cells #[.slice Ao9 t207.length co9] 36 (0,0)) (by (with_reducible repeat first|apply bkN|apply bkD|apply bkA);exact BK212.out) hb);have n6_:=A0_.mk (bkB (g:=gb217) (o:=.cells #[.slice Ao13 t213.length co13,.int .i64 t216] 64 (0,0)) (by (with_reducible repeat first|apply bkN|apply bkD|apply bkA);exact BK217.out) hb);have n7_:=A0_.mk (bkB (g:=gb222) (o:=.cells #[.slice Ao19 t218.length co19,.int .i64 t221] 64 (0,0)) (by (with_reducible repeat first|apply bkN|apply bkD|apply bkA);exact BK222.out) hb);have n8_:=A0_.mk (bsp (by repeat (first|(with_reducible first|exact HB.out|apply bal|apply pdN|apply bdr|refine bst ?_ GE212.out|refine bst ?_ GE217.out|refine bst ?_ GE222.out)|exact HB.out)) hb);clear HO_213000;clear HO_218000;clear HO_223000;clear HO228;clear HO231;clear BK212;clear BK217;clear BK222;clear HB;have HO_213000:=n0_;have HO_218000:=n1_;have HO_223000:=n2_;have HO228:=n3_;have HO231:=n4_;have BK212:=n5_;have BK217:=n6_;have BK222:=n7_;have HB:=n8_;clear n0_ n1_ n2_ n3_ n4_ n5_ n6_ n7_ n8_;(try clear hb);(try clear hb2);(try clear hk);(try clear hi);have hcz70_0:w69.cell? ⟨gb217,0,none⟩=some (.slice Ao13 t213.length co13):=(bkC BK217.out 0).trans rfl;have hcz70_1:w69.cell? ⟨gb217,1,none⟩=some (.int .i64 t216):=(bkC BK217.out 1).trans rfl;have hfz70_0:=bkF BK217.out 0;have hfz70_1:=bkF BK217.out 1)|(go_at_call 24;(with_reducible refine (iFO.calls kj5 _ _ t213 t234 _ ?side1 ?side2 A63.out).mono ?_);(case side1=>repeat (first|exact (Kd.R_reads' HO_218000.out).2.2|(with_reducible refine Kd.C_alloc ?_ _)|(with_reducible refine Kd.C_drewN ?_ _)|(with_reducible refine Kd.C_drew ?_)));(case side2=>exact (Kd.R_reads' HO_218000.out).2.1);rintro e w71 ⟨rfl,hb⟩;have n0_:=A0_.mk (Kd.R_below (by (with_reducible repeat (first|apply Kd.R_alloc|apply Kd.R_drewN|apply Kd.R_drew));exact HO_213000.out) hb);have n1_:=A0_.mk (Kd.R_below (by (with_reducible repeat (first|apply Kd.R_alloc|apply Kd.R_drewN|apply Kd.R_drew));exact HO_218000.out) hb);have n2_:=A0_.mk (Kd.R_below (by (with_reducible repeat (first|apply Kd.R_alloc|apply Kd.R_drewN|apply Kd.R_drew));exact HO_223000.out) hb);have n3_:=A0_.mk (Kd.R_below (by (with_reducible repeat (first|apply Kd.R_alloc|apply Kd.R_drewN|apply Kd.R_drew));exact HO228.out) hb);have n4_:=A0_.mk (Kd.R_below (by (with_reducible repeat (first|apply Kd.R_alloc|apply Kd.R_drewN|apply Kd.R_drew));exact HO231.out) hb);have n5_:=A0_.mk (bkB (g:=gb212) (o:=.cells #[.slice Ao9 t207.length co9] 36 (0,0)) (by (with_reducible repeat first|apply bkN|apply bkD|apply bkA);exact BK212.out) hb);have n6_:=A0_.mk (bkB (g:=gb217) (o:=.cells #[.slice Ao13 t213.length co13,.int .i64 t216] 64 (0,0)) (by (with_reducible repeat first|apply bkN|apply bkD|apply bkA);exact BK217.out) hb);have n7_:=A0_.mk (bkB (g:=gb222) (o:=.cells #[.slice Ao19 t218.length co19,.int .i64 t221] 64 (0,0)) (by (with_reducible repeat first|apply bkN|apply bkD|apply bkA);exact BK222.out) hb);have n8_:=A0_.mk (bsp (by repeat (first|(with_reducible first|exact HB.out|apply bal|apply pdN|apply bdr|refine bst ?_ GE212.out|refine bst ?_ GE217.out|refine bst ?_ GE222.out)|exact HB.out)) hb);clear HO_213000;clear HO_218000;clear HO_223000;clear HO228;clear HO231;clear BK212;clear BK217;clear BK222;clear HB;have HO_213000:=n0_;have HO_218000:=n1_;have HO_223000:=n2_;have HO228:=n3_;have HO231:=n4_;have BK212:=n5_;have BK217:=n6_;have BK222:=n7_;have HB:=n8_;clear n0_ n1_ n2_ n3_ n4_ n5_ n6_ n7_ n8_;(try clear hb);(try clear hb2);(try clear hk);(try clear hi)))
            go_meet
            case rel=>exact ⟨_,((t234 != 0)),(by first|rfl|(simp;done)|(simp [*];done)),H',⟨by have:=HJ5.out;first|omega|exact Nat.le_refl _⟩,⟨by (with_reducible repeat (first|apply Kd.R_alloc|apply Kd.R_drewN|apply Kd.R_drew));exact Kd.R_mono HO228.out (fun _ hk=>hk.2)⟩,⟨by (with_reducible repeat (first|apply Kd.R_alloc|apply Kd.R_drewN|apply Kd.R_drew));exact Kd.R_mono HO231.out (fun _ hk=>hk.2)⟩,⟨by (with_reducible repeat (first|apply Kd.R_alloc|apply Kd.R_drewN|apply Kd.R_drew));exact HO_213000.out⟩,⟨by (with_reducible repeat (first|apply Kd.R_alloc|apply Kd.R_drewN|apply Kd.R_drew));exact HO_218000.out⟩,⟨by (with_reducible repeat (first|apply Kd.R_alloc|apply Kd.R_drewN|apply Kd.R_drew));exact HO_223000.out⟩,⟨by (with_reducible repeat first|apply bkN|apply bkD|apply bkA);exact BK212.out⟩,⟨by (with_reducible repeat first|apply bkN|apply bkD|apply bkA);exact BK217.out⟩,⟨by (with_reducible repeat first|apply bkN|apply bkD|apply bkA);exact BK222.out⟩,⟨by repeat (first|(with_reducible first|exact HB.out|apply bal|apply pdN|apply bdr|refine bst ?_ GE212.out|refine bst ?_ GE217.out|refine bst ?_ GE222.out)|exact HB.out)⟩⟩
           ·rw [if_neg c62] at H
            have c62b0:(t233==(t226.length:Int))=false:=beq_eq_false_iff_ne.mpr c62;have c62b1:(t233 != (t226.length:Int))=true:=bne_iff_ne.mpr c62
            have H':=A0_.mk H
            clear H;obtain ⟨Ao72,co72,eo72⟩:=Kd.R_slice HO231.out;subst eo72;obtain ⟨Ao73,co73,eo73⟩:=Kd.R_slice HO228.out;subst eo73;have p232:0≤((t226.length:Int):Int):=of_decide_eq_true (by first|(with_reducible assumption)|assumption)
            have q232:(t226.length:Int) < (t229.length:Int):=of_decide_eq_true (by first|(with_reducible assumption)|assumption)
            obtain ⟨ad232,e232,hx232_0⟩:=Kd.at_string (Kd.R_reads' HO231.out).2.2 (t226.length:Int) p232 q232;cases e232
            (try simp only [Go.IntWalk.toNatUp] at hx232_0)
            replace p232:=eq_true p232;replace q232:=eq_true q232;have hnb74:=NB217_212.out;have hnc74:=NB212_217.out;have hnb75:=NB217_222.out;have hnc75:=NB222_217.out;have hcz76_0:w56.cell? ⟨gb217,0,none⟩=some (.slice Ao13 t213.length co13):=(bkC BK217.out 0).trans rfl
            have hcz76_1:w56.cell? ⟨gb217,1,none⟩=some (.int .i64 t216):=(bkC BK217.out 1).trans rfl
            have hfz76_0:=bkF BK217.out 0;have hfz76_1:=bkF BK217.out 1
            go_wp2_with (first|(go_at_call 27;(with_reducible refine (impl_FieldAt.calls kj5 _ _ t213 t216 t211 t233 _ ?side1 ?side2 A61.out).mono ?_);(case side1=>repeat (first|exact (Kd.R_reads' HO_218000.out).2.2|(with_reducible refine Kd.C_alloc ?_ _)|(with_reducible refine Kd.C_drewN ?_ _)|(with_reducible refine Kd.C_drew ?_)));(case side2=>exact (Kd.R_reads' HO_218000.out).2.1);rintro e w77 ⟨rfl,hb⟩;have n0_:=A0_.mk (Kd.R_below (by (with_reducible repeat (first|apply Kd.R_alloc|apply Kd.R_drewN|apply Kd.R_drew));exact HO_213000.out) hb);have n1_:=A0_.mk (Kd.R_below (by (with_reducible repeat (first|apply Kd.R_alloc|apply Kd.R_drewN|apply Kd.R_drew));exact HO_218000.out) hb);have n2_:=A0_.mk (Kd.R_below (by (with_reducible repeat (first|apply Kd.R_alloc|apply Kd.R_drewN|apply Kd.R_drew));exact HO_223000.out) hb);have n3_:=A0_.mk (Kd.R_below (by (with_reducible repeat (first|apply Kd.R_alloc|apply Kd.R_drewN|apply Kd.R_drew));exact HO228.out) hb);have n4_:=A0_.mk (Kd.R_below (by (with_reducible repeat (first|apply Kd.R_alloc|apply Kd.R_drewN|apply Kd.R_drew));exact HO231.out) hb);have n5_:=A0_.mk (bkB (g:=gb212) (o:=.cells #[.slice Ao9 t207.length co9] 36 (0,0)) (by (with_reducible repeat first|apply bkN|apply bkD|apply bkA);exact BK212.out) hb);have n6_:=A0_.mk (bkB (g:=gb217) (o:=.cells #[.slice Ao13 t213.length co13,.int .i64 t216] 64 (0,0)) (by (with_reducible repeat first|apply bkN|apply bkD|apply bkA);exact BK217.out) hb);have n7_:=A0_.mk (bkB (g:=gb222) (o:=.cells #[.slice Ao19 t218.length co19,.int .i64 t221] 64 (0,0)) (by (with_reducible repeat first|apply bkN|apply bkD|apply bkA);exact BK222.out) hb);have n8_:=A0_.mk (bsp (by repeat (first|(with_reducible first|exact HB.out|apply bal|apply pdN|apply bdr|refine bst ?_ GE212.out|refine bst ?_ GE217.out|refine bst ?_ GE222.out)|exact HB.out)) hb);clear HO_213000;clear HO_218000;clear HO_223000;clear HO228;clear HO231;clear BK212;clear BK217;clear BK222;clear HB;have HO_213000:=n0_;have HO_218000:=n1_;have HO_223000:=n2_;have HO228:=n3_;have HO231:=n4_;have BK212:=n5_;have BK217:=n6_;have BK222:=n7_;have HB:=n8_;clear n0_ n1_ n2_ n3_ n4_ n5_ n6_ n7_ n8_;(try clear hb);(try clear hb2);(try clear hk);(try clear hi)))
            go_meet
            case rel=>exact ⟨_,(true),(by first|rfl|(simp;done)|(simp [*];done)),H',⟨by have:=HJ5.out;first|omega|exact Nat.le_refl _⟩,⟨by (with_reducible repeat (first|apply Kd.R_alloc|apply Kd.R_drewN|apply Kd.R_drew));exact Kd.R_mono HO228.out (fun _ hk=>hk.2)⟩,⟨by (with_reducible repeat (first|apply Kd.R_alloc|apply Kd.R_drewN|apply Kd.R_drew));exact Kd.R_mono HO231.out (fun _ hk=>hk.2)⟩,⟨by (with_reducible repeat (first|apply Kd.R_alloc|apply Kd.R_drewN|apply Kd.R_drew));exact HO_213000.out⟩,⟨by (with_reducible repeat (first|apply Kd.R_alloc|apply Kd.R_drewN|apply Kd.R_drew));exact HO_218000.out⟩,⟨by (with_reducible repeat (first|apply Kd.R_alloc|apply Kd.R_drewN|apply Kd.R_drew));exact HO_223000.out⟩,⟨by (with_reducible repeat first|apply bkN|apply bkD|apply bkA);exact BK212.out⟩,⟨by (with_reducible repeat first|apply bkN|apply bkD|apply bkA);exact BK217.out⟩,⟨by (with_reducible repeat first|apply bkN|apply bkD|apply bkA);exact BK222.out⟩,⟨by repeat (first|(with_reducible first|exact HB.out|apply bal|apply pdN|apply bdr|refine bst ?_ GE212.out|refine bst ?_ GE217.out|refine bst ?_ GE222.out)|exact HB.out)⟩⟩
          ·rw [if_neg c60] at H
           have c60b0:((rdOf ByteArray.empty t229 (t226.length:Int)).toList==t211.toList)=false:=beq_eq_false_iff_ne.mpr c60;have c60b1:((rdOf ByteArray.empty t229 (t226.length:Int)).toList != t211.toList)=true:=bne_iff_ne.mpr c60
           have H':=A0_.mk H
           clear H;obtain ⟨Ao78,co78,eo78⟩:=Kd.R_slice HO231.out;subst eo78;obtain ⟨Ao79,co79,eo79⟩:=Kd.R_slice HO228.out;subst eo79;have p232:0≤((t226.length:Int):Int):=of_decide_eq_true (by first|(with_reducible assumption)|assumption)
           have q232:(t226.length:Int) < (t229.length:Int):=of_decide_eq_true (by first|(with_reducible assumption)|assumption)
           obtain ⟨ad232,e232,hx232_0⟩:=Kd.at_string (Kd.R_reads' HO231.out).2.2 (t226.length:Int) p232 q232;cases e232
           (try simp only [Go.IntWalk.toNatUp] at hx232_0)
           replace p232:=eq_true p232;replace q232:=eq_true q232;go_wp2
           go_meet
           case rel=>exact ⟨_,(true),(by first|rfl|(simp;done)|(simp [*];done)),H',⟨by have:=HJ5.out;first|omega|exact Nat.le_refl _⟩,⟨by (with_reducible repeat (first|apply Kd.R_alloc|apply Kd.R_drewN|apply Kd.R_drew));exact Kd.R_mono HO228.out (fun _ hk=>hk.2)⟩,⟨by (with_reducible repeat (first|apply Kd.R_alloc|apply Kd.R_drewN|apply Kd.R_drew));exact Kd.R_mono HO231.out (fun _ hk=>hk.2)⟩,⟨by (with_reducible repeat (first|apply Kd.R_alloc|apply Kd.R_drewN|apply Kd.R_drew));exact HO_213000.out⟩,⟨by (with_reducible repeat (first|apply Kd.R_alloc|apply Kd.R_drewN|apply Kd.R_drew));exact HO_218000.out⟩,⟨by (with_reducible repeat (first|apply Kd.R_alloc|apply Kd.R_drewN|apply Kd.R_drew));exact HO_223000.out⟩,⟨by (with_reducible repeat first|apply bkN|apply bkD|apply bkA);exact BK212.out⟩,⟨by (with_reducible repeat first|apply bkN|apply bkD|apply bkA);exact BK217.out⟩,⟨by (with_reducible repeat first|apply bkN|apply bkD|apply bkA);exact BK222.out⟩,⟨by repeat (first|(with_reducible first|exact HB.out|apply bal|apply pdN|apply bdr|refine bst ?_ GE212.out|refine bst ?_ GE217.out|refine bst ?_ GE222.out)|exact HB.out)⟩⟩
         ·rw [if_neg c59] at H
          exact absurd H (by simp)
        ·rw [if_neg c58] at H
         exact absurd H (by simp)
       ·rw [if_neg c57] at H
        have c57b0:((t229.length:Int)==(wrap64 ((t226.length:Int)+1)))=false:=beq_eq_false_iff_ne.mpr c57;have c57b1:((t229.length:Int) != (wrap64 ((t226.length:Int)+1)))=true:=bne_iff_ne.mpr c57
        (first|rw [c57b0]|(simp only [i64_w,i32_w];rw [c57b0])|skip)
        have H':=A0_.mk H
        clear H;obtain ⟨Ao80,co80,eo80⟩:=Kd.R_slice HO231.out;subst eo80;obtain ⟨Ao81,co81,eo81⟩:=Kd.R_slice HO228.out;subst eo81;go_wp2
        go_meet
        case rel=>exact ⟨_,(true),(by first|rfl|(simp;done)|(simp [*];done)),H',⟨by have:=HJ5.out;first|omega|exact Nat.le_refl _⟩,⟨by (with_reducible repeat (first|apply Kd.R_alloc|apply Kd.R_drewN|apply Kd.R_drew));exact Kd.R_mono HO228.out (fun _ hk=>hk.2)⟩,⟨by (with_reducible repeat (first|apply Kd.R_alloc|apply Kd.R_drewN|apply Kd.R_drew));exact Kd.R_mono HO231.out (fun _ hk=>hk.2)⟩,⟨by (with_reducible repeat (first|apply Kd.R_alloc|apply Kd.R_drewN|apply Kd.R_drew));exact HO_213000.out⟩,⟨by (with_reducible repeat (first|apply Kd.R_alloc|apply Kd.R_drewN|apply Kd.R_drew));exact HO_218000.out⟩,⟨by (with_reducible repeat (first|apply Kd.R_alloc|apply Kd.R_drewN|apply Kd.R_drew));exact HO_223000.out⟩,⟨by (with_reducible repeat first|apply bkN|apply bkD|apply bkA);exact BK212.out⟩,⟨by (with_reducible repeat first|apply bkN|apply bkD|apply bkA);exact BK217.out⟩,⟨by (with_reducible repeat first|apply bkN|apply bkD|apply bkA);exact BK222.out⟩,⟨by repeat (first|(with_reducible first|exact HB.out|apply bal|apply pdN|apply bdr|refine bst ?_ GE212.out|refine bst ?_ GE217.out|refine bst ?_ GE222.out)|exact HB.out)⟩⟩
      case rest=>
       clear HC48;(try clear c2);(try clear p2);(try clear q2);(try clear hx2);(try clear c3);(try clear c4);(try clear c5);(try clear c6);(try clear p6);(try clear c7);(try clear c22);(try clear p23);(try clear q23);(try clear hx23);(try clear c24);(try clear c25);(try clear c25b0);(try clear c25b1);(try clear c26);(try clear c26b0);(try clear c26b1);(try clear c29);(try clear c37);(try clear c41);(try clear c42);(try clear c42b0);(try clear c43);(try clear c44);(try clear c49);(try clear c50);(try clear c52);(try clear c57);(try clear c57b0);(try clear c57b1);(try clear c58);(try clear c58b0);(try clear c58b1);(try clear c59);(try clear c59b0);(try clear c59b1);(try clear c60);(try clear c60b0);(try clear c60b1);(try clear c62);(try clear c62b0);(try clear c62b1);(try clear p64);(try clear c66);(try clear c67);(try clear c74);(try clear c75);(try clear hcz45_0);(try clear hcz45_1);(try clear hcz51_0);(try clear hcz51_1);(try clear hcz53_0);(try clear hcz55_0);(try clear hcz55_1);(try clear hcz68_0);(try clear hcz68_1);(try clear hcz70_0);(try clear hcz70_1);(try clear hcz76_0);(try clear hcz76_1);(try clear hfz45_0);(try clear hfz45_1);(try clear hfz51_0);(try clear hfz51_1);(try clear hfz53_0);(try clear hfz55_0);(try clear hfz55_1);(try clear hfz68_0);(try clear hfz68_1);(try clear hfz70_0);(try clear hfz70_1);(try clear hfz76_0);(try clear hfz76_1);(try clear hx232_0);(try clear p2);(try clear p232);(try clear q232);obtain ⟨kq,x90_47,rfl,HA,HJ47,HO_8,HO_9,HO_213000,HO_218000,HO_223000,BK212,BK217,BK222,HB⟩:=hcut
       cases kq with
       |zero=>exact absurd HA.out (by simp [lFF.j1])
       |succ kj47=>
        have H:=HA.out;clear HA;simp only [lFF.j1] at H
        by_cases c82:x90_47=true
        ·subst c82
         have H1:(none)=some r:=by rw [if_pos rfl] at H;exact H
         clear H;have H:=H1;clear H1;exact absurd H (by simp)
        ·replace c82:=Bool.eq_false_iff.mpr c82
         subst c82;have H1:(lFF.l0 kj47 t210 t211 t226 t229 (t226.length:Int) 0 t213 t216)=some r:=by rw [if_neg (show ¬ (false=true) by decide)] at H;exact H
         clear H;have H:=H1;clear H1
         have H':=A0_.mk H
         clear H;obtain ⟨Ao83,co83,eo83⟩:=Kd.R_slice HO_8.out;subst eo83;go_wp2
         go_loopg [93] kj47 (fun kq v93 w'=>∃ (x93_3:Int),v93=.int .i64 x93_3∧A0_ (lFF.l0 kq t210 t211 t226 t229 (t226.length:Int) x93_3 t213 t216=some r)∧A0_ (kq≤kj47)∧A0_ (Kd.R Kd.string 9 w' w.heap.size (fun k_=>some k_≠(v230:Value).ownBlock) (.slice Ao83 t226.length co83) t226)∧A0_ (Kd.R Kd.string 9 w' w.heap.size (fun k_=>some k_≠((.slice Ao83 t226.length co83):Value).ownBlock) v230 t229)∧A0_ (Kd.R k75 75 w' w.heap.size (fun k_=>some k_≠((.slice Ao13 t213.length co13):Value).ownBlock∧some k_≠((.slice Ao19 t218.length co19):Value).ownBlock) (.slice Ao9 t207.length co9) t207)∧A0_ (Kd.R k75 75 w' w.heap.size (fun k_=>some k_≠((.slice Ao9 t207.length co9):Value).ownBlock∧some k_≠((.slice Ao19 t218.length co19):Value).ownBlock) (.slice Ao13 t213.length co13) t213)∧A0_ (Kd.R k75 75 w' w.heap.size (fun k_=>some k_≠((.slice Ao9 t207.length co9):Value).ownBlock∧some k_≠((.slice Ao13 t213.length co13):Value).ownBlock) (.slice Ao19 t218.length co19) t218)∧A0_ (w'.heap[gb212]? = some (.cells #[(.slice Ao9 t207.length co9)] 36 (0,0)))∧A0_ (w'.heap[gb217]? = some (.cells #[(.slice Ao13 t213.length co13),.int .i64 t216] 64 (0,0)))∧A0_ (w'.heap[gb222]? = some (.cells #[(.slice Ao19 t218.length co19),.int .i64 t221] 64 (0,0)))∧A0_ (Below w.heap.size w w'))
         case atStart=>exact ⟨(0),(by first|rfl|(simp;done)|(simp [*];done)),H',⟨Nat.le_refl _⟩,⟨by (with_reducible repeat (first|apply Kd.R_alloc|apply Kd.R_drewN|apply Kd.R_drew));exact HO_8.out⟩,⟨by (with_reducible repeat (first|apply Kd.R_alloc|apply Kd.R_drewN|apply Kd.R_drew));exact HO_9.out⟩,⟨by (with_reducible repeat (first|apply Kd.R_alloc|apply Kd.R_drewN|apply Kd.R_drew));exact HO_213000.out⟩,⟨by (with_reducible repeat (first|apply Kd.R_alloc|apply Kd.R_drewN|apply Kd.R_drew));exact HO_218000.out⟩,⟨by (with_reducible repeat (first|apply Kd.R_alloc|apply Kd.R_drewN|apply Kd.R_drew));exact HO_223000.out⟩,⟨by (with_reducible repeat first|apply bkN|apply bkD|apply bkA);exact BK212.out⟩,⟨by (with_reducible repeat first|apply bkN|apply bkD|apply bkA);exact BK217.out⟩,⟨by (with_reducible repeat first|apply bkN|apply bkD|apply bkA);exact BK222.out⟩,⟨by repeat (first|(with_reducible first|exact HB.out|apply bal|apply pdN|apply bdr|refine bst ?_ GE212.out|refine bst ?_ GE217.out|refine bst ?_ GE222.out)|exact HB.out)⟩⟩
         case round=>
          clear H';(try clear c2);(try clear p2);(try clear q2);(try clear hx2);(try clear c3);(try clear c4);(try clear c5);(try clear c6);(try clear p6);(try clear c7);(try clear c8);(try clear c22);(try clear p23);(try clear q23);(try clear hx23);(try clear c24);(try clear c25);(try clear c25b0);(try clear c25b1);(try clear c26);(try clear c26b0);(try clear c26b1);(try clear c29);(try clear c37);(try clear c41);(try clear c42);(try clear c42b0);(try clear c43);(try clear c44);(try clear c49);(try clear c50);(try clear c52);(try clear c57);(try clear c57b0);(try clear c57b1);(try clear c58);(try clear c58b0);(try clear c58b1);(try clear c59);(try clear c59b0);(try clear c59b1);(try clear c60);(try clear c60b0);(try clear c60b1);(try clear c62);(try clear c62b0);(try clear c62b1);(try clear p64);(try clear c66);(try clear c67);(try clear c74);(try clear c75);(try clear c82);(try clear hcz45_0);(try clear hcz45_1);(try clear hcz51_0);(try clear hcz51_1);(try clear hcz53_0);(try clear hcz55_0);(try clear hcz55_1);(try clear hcz68_0);(try clear hcz68_1);(try clear hcz70_0);(try clear hcz70_1);(try clear hcz76_0);(try clear hcz76_1);(try clear hfz45_0);(try clear hfz45_1);(try clear hfz51_0);(try clear hfz51_1);(try clear hfz53_0);(try clear hfz55_0);(try clear hfz55_1);(try clear hfz68_0);(try clear hfz68_1);(try clear hfz70_0);(try clear hfz70_1);(try clear hfz76_0);(try clear hfz76_1);(try clear hx232_0);(try clear p2);(try clear p23);(try clear p232);(try clear p6);(try clear p64);(try clear q2);(try clear q23);(try clear q232);obtain ⟨x93_3,rfl,HA,HK3,HO_8,HO_9,HO_213000,HO_218000,HO_223000,BK212,BK217,BK222,HB⟩:=hrel
          cases gk with
          |zero=>exact absurd HA.out (by simp [lFF.l0])
          |succ k3=>
           have H:=HA.out;clear HA;simp only [lFF.l0] at H
           by_cases c84:x93_3 < (t226.length:Int)
           ·rw [if_pos c84] at H
            have c84b0:decide (x93_3 < (t226.length:Int))=true:=decide_eq_true c84;clear c84
            by_cases c85:0≤x93_3
            ·rw [if_pos c85] at H
             have c85b0:decide (0≤x93_3)=true:=decide_eq_true c85;clear c85
             by_cases c86:x93_3 < (t226.length:Int)
             ·rw [if_pos c86] at H
              have c86b0:decide (x93_3 < (t226.length:Int))=true:=decide_eq_true c86;clear c86
              by_cases c87:x93_3 < (t229.length:Int)
              ·rw [if_pos c87] at H
               have c87b0:decide (x93_3 < (t229.length:Int))=true:=decide_eq_true c87;clear c87
               by_cases c88:(rdOf ByteArray.empty t226 x93_3).toList=(rdOf ByteArray.empty t229 x93_3).toList
               ·rw [if_pos c88] at H
                have c88b0:((rdOf ByteArray.empty t226 x93_3).toList==(rdOf ByteArray.empty t229 x93_3).toList)=true:=beq_iff_eq.mpr c88;have c88b1:((rdOf ByteArray.empty t226 x93_3).toList != (rdOf ByteArray.empty t229 x93_3).toList)=false:=bne_eq_false_iff_eq.mpr c88;clear c88;replace H:=Option.bind_eq_some_iff.mp H;obtain ⟨t238,A890,H⟩:=H
                replace H:(if t238=x93_3 then (lFF.l0 k3 t210 t211 t226 t229 (t226.length:Int) (wrap64 (x93_3+1)) t213 t216) else (none))=some r:=H
                have A89:=A0_.mk A890;clear A890
                by_cases c90:t238=x93_3
                ·rw [if_pos c90] at H
                 have c90b0:(t238==x93_3)=true:=beq_iff_eq.mpr c90;have c90b1:(t238 != x93_3)=false:=bne_eq_false_iff_eq.mpr c90;clear c90
                 have H':=A0_.mk H
                 clear H
                 try go_wp2
                 have n0_:=A0_.mk (Kd.R_drew HO_8.out);have n1_:=A0_.mk (Kd.R_drew HO_9.out);have n2_:=A0_.mk (Kd.R_drew HO_213000.out);have n3_:=A0_.mk (Kd.R_drew HO_218000.out);have n4_:=A0_.mk (Kd.R_drew HO_223000.out);have n5_:=A0_.mk (bkD BK212.out);have n6_:=A0_.mk (bkD BK217.out);have n7_:=A0_.mk (bkD BK222.out);have n8_:=A0_.mk (bdr HB.out);clear HO_8;clear HO_9;clear HO_213000;clear HO_218000;clear HO_223000;clear BK212;clear BK217;clear BK222;clear HB;have HO_8:=n0_;have HO_9:=n1_;have HO_213000:=n2_;have HO_218000:=n3_;have HO_223000:=n4_;have BK212:=n5_;have BK217:=n6_;have BK222:=n7_;have HB:=n8_;clear n0_ n1_ n2_ n3_ n4_ n5_ n6_ n7_ n8_;have p235:0≤(x93_3:Int):=of_decide_eq_true (by first|(with_reducible assumption)|assumption)
                 have q235:x93_3 < (t226.length:Int):=of_decide_eq_true (by first|(with_reducible assumption)|assumption);obtain ⟨ad235,e235,hx235_0⟩:=Kd.at_string (Kd.R_reads' HO_8.out).2.2 x93_3 p235 q235;cases e235;replace p235:=eq_true p235;replace q235:=eq_true q235;obtain ⟨Ao92,co92,eo92⟩:=Kd.R_slice HO_9.out
                 (first|subst eo92|(injection eo92 with f1_ f2_ f3_;have f4_:=f1_.symm;have f5_:=f3_.symm;clear f1_ f2_ f3_;subst f4_;subst f5_))
                 have p236:0≤(x93_3:Int):=of_decide_eq_true (by first|(with_reducible assumption)|assumption)
                 have q236:x93_3 < (t229.length:Int):=of_decide_eq_true (by first|(with_reducible assumption)|assumption);obtain ⟨ad236,e236,hx236_0⟩:=Kd.at_string (Kd.R_reads' HO_9.out).2.2 x93_3 p236 q236;cases e236;replace p236:=eq_true p236;replace q236:=eq_true q236;have p237:0≤(x93_3:Int):=of_decide_eq_true (by first|(with_reducible assumption)|assumption)
                 have q237:x93_3 < (t226.length:Int):=of_decide_eq_true (by first|(with_reducible assumption)|assumption);obtain ⟨ad237,e237,hx237_0⟩:=Kd.at_string (Kd.R_reads' HO_8.out).2.2 x93_3 p237 q237
                 obtain rfl:ad235=ad237:=(by injection e237)
                 replace p237:=eq_true p237;replace q237:=eq_true q237;refine start_ (n:=22) (S:=fun w'=>w'.cell? ⟨gb217,0,none⟩=some (.slice Ao13 t213.length co13)∧w'.cell? ⟨gb217,1,none⟩=some (.int .i64 t216)∧w'.cell? (ad235.add (x93_3).toNat)=some (.string (rdOf ByteArray.empty t226 x93_3))∧w'.cell? (ad236.add (x93_3).toNat)=some (.string (rdOf ByteArray.empty t229 x93_3))∧w'.cell? (ad235.add (x93_3).toNat)=some (.string (rdOf ByteArray.empty t226 x93_3))) (ds:=[]) #[n_,n_,n_,n_,n_,n_,n_,n_,n_,n_,n_,n_,n_,n_,n_,n_,n_,n_,n_,n_,n_,n_] (by kernel_rfl) rfl rfl ⟨(bkC BK217.out 0).trans rfl,(bkC BK217.out 1).trans rfl,hx235_0,hx236_0,hx237_0⟩ (fun hHeld=>?_);refine with_tabW lFF.tab17 lFF.bits17 (fun HT_ HW_=>?_)
                 generalize wr.drew=w91 at HO_8 HO_9 HO_213000 HO_218000 HO_223000 BK212 BK217 BK222 HB hx235_0 hx236_0 hx237_0 hHeld ⊢
                 refine pure_ (i:=0) (N:=some 96) (v:=?_) (a':=?_) #[y_,n_,n_,n_,n_,n_,n_,n_,n_,n_,n_,n_,n_,n_,n_,n_,n_,n_,n_,n_,n_,n_] rfl rfl (any_of HT_.out (by kernel_rfl)) (fun _ _ _ h=>h) (Or.inl ⟨by rfl,?_⟩) ?_ ?_;rotate_left
                 ·intro w'
                  go_simp;with_reducible rfl
                 rotate_left
                 ·simp only [Act.put,List.setIfInBounds_toArray,List.set_cons_zero,List.set_cons_succ,i64_w,i32_w]
                  rfl
                 refine pure_ (i:=1) (N:=some 97) (v:=?_) (a':=?_) #[y_,y_,n_,n_,n_,n_,n_,n_,n_,n_,n_,n_,n_,n_,n_,n_,n_,n_,n_,n_,n_,n_] rfl rfl (any_of HT_.out (by kernel_rfl)) (fun _ _ _ h=>h) (Or.inl ⟨by rfl,?_⟩) ?_ ?_;rotate_left
                 ·intro w'
                  go_simp;with_reducible rfl
                 rotate_left
                 ·simp only [Act.put,List.setIfInBounds_toArray,List.set_cons_zero,List.set_cons_succ,i64_w,i32_w]
                  rfl
                 refine pure_ (i:=2) (N:=some 98) (v:=?_) (a':=?_) #[y_,y_,y_,n_,n_,n_,n_,n_,n_,n_,n_,n_,n_,n_,n_,n_,n_,n_,n_,n_,n_,n_] rfl rfl (any_of HT_.out (by kernel_rfl)) (fun _ _ _ h=>h) (Or.inl ⟨by rfl,?_⟩) ?_ ?_;rotate_left
                 ·intro w'
                  go_simp;with_reducible rfl
                 rotate_left
                 ·simp only [Act.put,List.setIfInBounds_toArray,List.set_cons_zero,List.set_cons_succ,i64_w,i32_w]
                  rfl
                 refine pure_ (i:=4) (N:=some 100) (v:=?_) (a':=?_) #[y_,y_,y_,n_,y_,n_,n_,n_,n_,n_,n_,n_,n_,n_,n_,n_,n_,n_,n_,n_,n_,n_] rfl rfl (any_of HT_.out (by kernel_rfl)) (fun _ _ _ h=>h) (Or.inl ⟨by rfl,?_⟩) ?_ ?_;rotate_left
                 ·intro w'
                  go_simp;with_reducible rfl
                 rotate_left
                 ·simp only [Act.put,List.setIfInBounds_toArray,List.set_cons_zero,List.set_cons_succ,i64_w,i32_w]
                  rfl
                 refine pure_ (i:=5) (N:=some 101) (v:=?_) (a':=?_) #[y_,y_,y_,n_,y_,y_,n_,n_,n_,n_,n_,n_,n_,n_,n_,n_,n_,n_,n_,n_,n_,n_] rfl rfl (any_of HT_.out (by kernel_rfl)) (fun _ _ _ h=>h) (Or.inl ⟨by rfl,?_⟩) ?_ ?_;rotate_left
                 ·intro w'
                  go_simp;with_reducible rfl
                 rotate_left
                 ·simp only [Act.put,List.setIfInBounds_toArray,List.set_cons_zero,List.set_cons_succ,i64_w,i32_w]
                  rfl
                 refine pure_ (i:=6) (N:=some 102) (v:=?_) (a':=?_) #[y_,y_,y_,n_,y_,y_,y_,n_,n_,n_,n_,n_,n_,n_,n_,n_,n_,n_,n_,n_,n_,n_] rfl rfl (any_of HT_.out (by kernel_rfl)) (fun _ _ _ h=>h) (Or.inl ⟨by rfl,?_⟩) ?_ ?_;rotate_left
                 ·intro w'
                  go_simp;with_reducible rfl
                 rotate_left
                 ·simp only [Act.put,List.setIfInBounds_toArray,List.set_cons_zero,List.set_cons_succ,i64_w,i32_w]
                  rfl
                 refine take_ (i:=3) (N:=some 99) (v:=?_) (a':=?_) #[y_,y_,y_,y_,y_,y_,y_,n_,n_,n_,n_,n_,n_,n_,n_,n_,n_,n_,n_,n_,n_,n_] rfl rfl (take_ofW HT_.out HW_.out (by kernel_rfl)) (fun _ _ _ h=>h) (Or.inl ⟨by rfl,?_⟩) hHeld ?_ ?_;rotate_left
                 ·rintro w' ⟨s0,s1,s2,s3,s4⟩
                  go_simp;with_reducible rfl
                 rotate_left
                 ·simp only [Act.put,List.setIfInBounds_toArray,List.set_cons_zero,List.set_cons_succ,i64_w,i32_w]
                  rfl
                 refine take_ (i:=7) (N:=some 103) (v:=?_) (a':=?_) #[y_,y_,y_,y_,y_,y_,y_,y_,n_,n_,n_,n_,n_,n_,n_,n_,n_,n_,n_,n_,n_,n_] rfl rfl (take_ofW HT_.out HW_.out (by kernel_rfl)) (fun _ _ _ h=>h) (Or.inl ⟨by rfl,?_⟩) hHeld ?_ ?_;rotate_left
                 ·rintro w' ⟨s0,s1,s2,s3,s4⟩
                  go_simp;with_reducible rfl
                 rotate_left
                 ·simp only [Act.put,List.setIfInBounds_toArray,List.set_cons_zero,List.set_cons_succ,i64_w,i32_w]
                  rfl
                 refine pure_ (i:=8) (N:=some 104) (v:=?_) (a':=?_) #[y_,y_,y_,y_,y_,y_,y_,y_,y_,n_,n_,n_,n_,n_,n_,n_,n_,n_,n_,n_,n_,n_] rfl rfl (any_of HT_.out (by kernel_rfl)) (fun _ _ _ h=>h) (Or.inl ⟨by rfl,?_⟩) ?_ ?_;rotate_left
                 ·intro w'
                  go_simp;with_reducible rfl
                 rotate_left
                 ·simp only [Act.put,List.setIfInBounds_toArray,List.set_cons_zero,List.set_cons_succ,i64_w,i32_w]
                  rfl
                 refine pure_ (i:=9) (N:=some 105) (v:=?_) (a':=?_) #[y_,y_,y_,y_,y_,y_,y_,y_,y_,y_,n_,n_,n_,n_,n_,n_,n_,n_,n_,n_,n_,n_] rfl rfl (any_of HT_.out (by kernel_rfl)) (fun _ _ _ h=>h) (Or.inl ⟨by rfl,?_⟩) ?_ ?_;rotate_left
                 ·intro w'
                  go_simp;with_reducible rfl
                 rotate_left
                 ·simp only [Act.put,List.setIfInBounds_toArray,List.set_cons_zero,List.set_cons_succ,i64_w,i32_w]
                  rfl
                 refine pure_ (i:=10) (N:=some 106) (v:=?_) (a':=?_) #[y_,y_,y_,y_,y_,y_,y_,y_,y_,y_,y_,n_,n_,n_,n_,n_,n_,n_,n_,n_,n_,n_] rfl rfl (any_of HT_.out (by kernel_rfl)) (fun _ _ _ h=>h) (Or.inl ⟨by rfl,?_⟩) ?_ ?_;rotate_left
                 ·intro w'
                  go_simp;with_reducible rfl
                 rotate_left
                 ·simp only [Act.put,List.setIfInBounds_toArray,List.set_cons_zero,List.set_cons_succ,i64_w,i32_w]
                  rfl
                 refine pure_ (i:=12) (N:=some 108) (v:=?_) (a':=?_) #[y_,y_,y_,y_,y_,y_,y_,y_,y_,y_,y_,n_,y_,n_,n_,n_,n_,n_,n_,n_,n_,n_] rfl rfl (any_of HT_.out (by kernel_rfl)) (fun _ _ _ h=>h) (Or.inl ⟨by rfl,?_⟩) ?_ ?_;rotate_left
                 ·intro w'
                  go_simp;with_reducible rfl
                 rotate_left
                 ·simp only [Act.put,List.setIfInBounds_toArray,List.set_cons_zero,List.set_cons_succ,i64_w,i32_w]
                  rfl
                 refine pure_ (i:=14) (N:=some 110) (v:=?_) (a':=?_) #[y_,y_,y_,y_,y_,y_,y_,y_,y_,y_,y_,n_,y_,n_,y_,n_,n_,n_,n_,n_,n_,n_] rfl rfl (any_of HT_.out (by kernel_rfl)) (fun _ _ _ h=>h) (Or.inl ⟨by rfl,?_⟩) ?_ ?_;rotate_left
                 ·intro w'
                  go_simp;with_reducible rfl
                 rotate_left
                 ·simp only [Act.put,List.setIfInBounds_toArray,List.set_cons_zero,List.set_cons_succ,i64_w,i32_w]
                  rfl
                 refine pure_ (i:=15) (N:=some 111) (v:=?_) (a':=?_) #[y_,y_,y_,y_,y_,y_,y_,y_,y_,y_,y_,n_,y_,n_,y_,y_,n_,n_,n_,n_,n_,n_] rfl rfl (any_of HT_.out (by kernel_rfl)) (fun _ _ _ h=>h) (Or.inl ⟨by rfl,?_⟩) ?_ ?_;rotate_left
                 ·intro w'
                  go_simp;with_reducible rfl
                 rotate_left
                 ·simp only [Act.put,List.setIfInBounds_toArray,List.set_cons_zero,List.set_cons_succ,i64_w,i32_w]
                  rfl
                 refine pure_ (i:=16) (N:=some 112) (v:=?_) (a':=?_) #[y_,y_,y_,y_,y_,y_,y_,y_,y_,y_,y_,n_,y_,n_,y_,y_,y_,n_,n_,n_,n_,n_] rfl rfl (any_of HT_.out (by kernel_rfl)) (fun _ _ _ h=>h) (Or.inl ⟨by rfl,?_⟩) ?_ ?_;rotate_left
                 ·intro w'
                  go_simp;with_reducible rfl
                 rotate_left
                 ·simp only [Act.put,List.setIfInBounds_toArray,List.set_cons_zero,List.set_cons_succ,i64_w,i32_w]
                  rfl
                 refine pure_ (i:=19) (N:=some 115) (v:=?_) (a':=?_) #[y_,y_,y_,y_,y_,y_,y_,y_,y_,y_,y_,n_,y_,n_,y_,y_,y_,n_,n_,y_,n_,n_] rfl rfl (any_of HT_.out (by kernel_rfl)) (fun _ _ _ h=>h) (Or.inl ⟨by rfl,?_⟩) ?_ ?_;rotate_left
                 ·intro w'
                  go_simp;with_reducible rfl
                 rotate_left
                 ·simp only [Act.put,List.setIfInBounds_toArray,List.set_cons_zero,List.set_cons_succ,i64_w,i32_w]
                  rfl
                 refine take_ (i:=11) (N:=some 107) (v:=?_) (a':=?_) #[y_,y_,y_,y_,y_,y_,y_,y_,y_,y_,y_,y_,y_,n_,y_,y_,y_,n_,n_,y_,n_,n_] rfl rfl (take_ofW HT_.out HW_.out (by kernel_rfl)) (fun _ _ _ h=>h) (Or.inl ⟨by rfl,?_⟩) hHeld ?_ ?_;rotate_left
                 ·rintro w' ⟨s0,s1,s2,s3,s4⟩
                  go_simp;with_reducible rfl
                 rotate_left
                 ·simp only [Act.put,List.setIfInBounds_toArray,List.set_cons_zero,List.set_cons_succ,i64_w,i32_w]
                  rfl
                 refine take_ (i:=13) (N:=some 109) (v:=?_) (a':=?_) #[y_,y_,y_,y_,y_,y_,y_,y_,y_,y_,y_,y_,y_,y_,y_,y_,y_,n_,n_,y_,n_,n_] rfl rfl (take_ofW HT_.out HW_.out (by kernel_rfl)) (fun _ _ _ h=>h) (Or.inl ⟨by rfl,?_⟩) hHeld ?_ ?_;rotate_left
                 ·rintro w' ⟨s0,s1,s2,s3,s4⟩
                  go_simp;with_reducible rfl
                 rotate_left
                 ·simp only [Act.put,List.setIfInBounds_toArray,List.set_cons_zero,List.set_cons_succ,i64_w,i32_w]
                  rfl
                 refine take_ (i:=17) (N:=some 113) (v:=?_) (a':=?_) #[y_,y_,y_,y_,y_,y_,y_,y_,y_,y_,y_,y_,y_,y_,y_,y_,y_,y_,n_,y_,n_,n_] rfl rfl (take_ofW HT_.out HW_.out (by kernel_rfl)) (fun _ _ _ h=>h) (Or.inl ⟨by rfl,?_⟩) hHeld ?_ ?_;rotate_left
                 ·rintro w' ⟨s0,s1,s2,s3,s4⟩
                  go_simp;with_reducible rfl
                 rotate_left
                 ·simp only [Act.put,List.setIfInBounds_toArray,List.set_cons_zero,List.set_cons_succ,i64_w,i32_w]
                  rfl
                 refine one_ (i:=18) (N:=some 114) #[y_,y_,y_,y_,y_,y_,y_,y_,y_,y_,y_,y_,y_,y_,y_,y_,y_,y_,y_,y_,n_,n_] rfl rfl (one_of HT_.out (by kernel_rfl)) (by decide) (fun K hK=>?_);refine goes_ Try.func27 (by kernel_rfl) rfl #[.agg #[.slice Ao13 t213.length co13],.int .i64 t216,.string (rdOf ByteArray.empty t226 x93_3)] (by rfl) rfl rfl (by (try simp only [List.map_toArray,List.map_cons,List.map_nil]);first|done|rfl|(simp only [List.length_drop,List.length_take];rfl)) ?_
                 with_reducible refine (impl_FieldAt.calls k3 _ _ t213 t216 (rdOf ByteArray.empty t226 x93_3) t238 _ ?side1 ?side2 A89.out).mono ?_
                 (case side1=>repeat (first|exact (Kd.R_reads' HO_218000.out).2.2|(with_reducible refine Kd.C_alloc ?_ _)|(with_reducible refine Kd.C_drewN ?_ _)|(with_reducible refine Kd.C_drew ?_)))
                 (case side2=>exact (Kd.R_reads' HO_218000.out).2.1)
                 rintro e w93 ⟨rfl,hb⟩
                 have HS2_:=(hb.cell (World.block_lt_of_cell? _ _ (hHeld.2.2.1))).trans (hHeld.2.2.1);have HS3_:=(hb.cell (World.block_lt_of_cell? _ _ (hHeld.2.2.2.1))).trans (hHeld.2.2.2.1);have HS4_:=(hb.cell (World.block_lt_of_cell? _ _ (hHeld.2.2.2.2))).trans (hHeld.2.2.2.2);refine ⟨_,rfl,?_⟩;have n0_:=A0_.mk (Kd.R_below (by (with_reducible repeat (first|apply Kd.R_alloc|apply Kd.R_drewN|apply Kd.R_drew));exact HO_8.out) hb);have n1_:=A0_.mk (Kd.R_below (by (with_reducible repeat (first|apply Kd.R_alloc|apply Kd.R_drewN|apply Kd.R_drew));exact HO_9.out) hb);have n2_:=A0_.mk (Kd.R_below (by (with_reducible repeat (first|apply Kd.R_alloc|apply Kd.R_drewN|apply Kd.R_drew));exact HO_213000.out) hb);have n3_:=A0_.mk (Kd.R_below (by (with_reducible repeat (first|apply Kd.R_alloc|apply Kd.R_drewN|apply Kd.R_drew));exact HO_218000.out) hb);have n4_:=A0_.mk (Kd.R_below (by (with_reducible repeat (first|apply Kd.R_alloc|apply Kd.R_drewN|apply Kd.R_drew));exact HO_223000.out) hb);have n5_:=A0_.mk (bkB (g:=gb212) (o:=.cells #[.slice Ao9 t207.length co9] 36 (0,0)) (by (with_reducible repeat first|apply bkN|apply bkD|apply bkA);exact BK212.out) hb);have n6_:=A0_.mk (bkB (g:=gb217) (o:=.cells #[.slice Ao13 t213.length co13,.int .i64 t216] 64 (0,0)) (by (with_reducible repeat first|apply bkN|apply bkD|apply bkA);exact BK217.out) hb);have n7_:=A0_.mk (bkB (g:=gb222) (o:=.cells #[.slice Ao19 t218.length co19,.int .i64 t221] 64 (0,0)) (by (with_reducible repeat first|apply bkN|apply bkD|apply bkA);exact BK222.out) hb);have n8_:=A0_.mk (bsp (by repeat (first|(with_reducible first|exact HB.out|apply bal|apply pdN|apply bdr|refine bst ?_ GE212.out|refine bst ?_ GE217.out|refine bst ?_ GE222.out)|exact HB.out)) hb);clear HO_8;clear HO_9;clear HO_213000;clear HO_218000;clear HO_223000;clear BK212;clear BK217;clear BK222;clear HB;have HO_8:=n0_;have HO_9:=n1_;have HO_213000:=n2_;have HO_218000:=n3_;have HO_223000:=n4_;have BK212:=n5_;have BK217:=n6_;have BK222:=n7_;have HB:=n8_;clear n0_ n1_ n2_ n3_ n4_ n5_ n6_ n7_ n8_;(try clear hb);(try clear hb2);(try clear hk);(try clear hi);refine hK.out _ _ ⟨(bkC BK217.out 0).trans rfl,(bkC BK217.out 1).trans rfl,HS2_,HS3_,HS4_⟩ (fun hHeld=>?_);clear hK K;refine norm_ (a':=?_) ?_ ?_;rotate_left
                 ·show Act.put _ (some 114) _=_
                  simp only [Act.put,List.setIfInBounds_toArray,List.set_cons_zero,List.set_cons_succ,i64_w,i32_w];rfl
                 refine pure_ (i:=20) (N:=some 116) (v:=?_) (a':=?_) #[y_,y_,y_,y_,y_,y_,y_,y_,y_,y_,y_,y_,y_,y_,y_,y_,y_,y_,y_,y_,y_,n_] rfl rfl (any_of HT_.out (by kernel_rfl)) (fun _ _ _ h=>h) (Or.inl ⟨by rfl,?_⟩) ?_ ?_;rotate_left
                 ·intro w'
                  go_simp;with_reducible rfl
                 rotate_left
                 ·simp only [Act.put,List.setIfInBounds_toArray,List.set_cons_zero,List.set_cons_succ,i64_w,i32_w]
                  rfl
                 refine pure_ (i:=21) (N:=some 117) (v:=?_) (a':=?_) #[y_,y_,y_,y_,y_,y_,y_,y_,y_,y_,y_,y_,y_,y_,y_,y_,y_,y_,y_,y_,y_,y_] rfl rfl (any_of HT_.out (by kernel_rfl)) (fun _ _ _ h=>h) (Or.inl ⟨by rfl,?_⟩) ?_ ?_;rotate_left
                 ·intro w'
                  go_simp;with_reducible rfl
                 rotate_left
                 ·simp only [Act.put,List.setIfInBounds_toArray,List.set_cons_zero,List.set_cons_succ,i64_w,i32_w]
                  rfl
                 refine done_ (done_of HT_.out (by kernel_rfl)) ?_
                 try go_wp2
                 go_roundg k3
                 case measure=>have:=HJ5.out;have:=HJ47.out;have:=HK3.out;omega
                 case rel=>exact ⟨(wrap64 (x93_3+1)),(by first|rfl|(simp;done)|(simp [*];done)),H',⟨by have:=HJ5.out;have:=HJ47.out;have:=HK3.out;omega⟩,⟨by (with_reducible repeat (first|apply Kd.R_alloc|apply Kd.R_drewN|apply Kd.R_drew));exact HO_8.out⟩,⟨by (with_reducible repeat (first|apply Kd.R_alloc|apply Kd.R_drewN|apply Kd.R_drew));exact HO_9.out⟩,⟨by (with_reducible repeat (first|apply Kd.R_alloc|apply Kd.R_drewN|apply Kd.R_drew));exact HO_213000.out⟩,⟨by (with_reducible repeat (first|apply Kd.R_alloc|apply Kd.R_drewN|apply Kd.R_drew));exact HO_218000.out⟩,⟨by (with_reducible repeat (first|apply Kd.R_alloc|apply Kd.R_drewN|apply Kd.R_drew));exact HO_223000.out⟩,⟨by (with_reducible repeat first|apply bkN|apply bkD|apply bkA);exact BK212.out⟩,⟨by (with_reducible repeat first|apply bkN|apply bkD|apply bkA);exact BK217.out⟩,⟨by (with_reducible repeat first|apply bkN|apply bkD|apply bkA);exact BK222.out⟩,⟨by repeat (first|(with_reducible first|exact HB.out|apply bal|apply pdN|apply bdr|refine bst ?_ GE212.out|refine bst ?_ GE217.out|refine bst ?_ GE222.out)|exact HB.out)⟩⟩
                ·rw [if_neg c90] at H
                 exact absurd H (by simp)
               ·rw [if_neg c88] at H
                have c88b0:((rdOf ByteArray.empty t226 x93_3).toList==(rdOf ByteArray.empty t229 x93_3).toList)=false:=beq_eq_false_iff_ne.mpr c88;have c88b1:((rdOf ByteArray.empty t226 x93_3).toList != (rdOf ByteArray.empty t229 x93_3).toList)=true:=bne_iff_ne.mpr c88;exact absurd H (by simp)
              ·rw [if_neg c87] at H
               exact absurd H (by simp)
             ·rw [if_neg c86] at H
              exact absurd H (by simp)
            ·rw [if_neg c85] at H
             exact absurd H (by simp)
           ·rw [if_neg c84] at H
            have c84b0:decide (x93_3 < (t226.length:Int))=false:=decide_eq_false c84;clear c84;replace H:=Option.bind_eq_some_iff.mp H;obtain ⟨⟨t239,t242⟩,A940,H⟩:=H
            replace H:(some (t242==t216))=some r:=H
            have A94:=A0_.mk A940;clear A940
            obtain rfl:=Option.some.inj H
            try go_wp2
            have n0_:=A0_.mk (Kd.R_drew HO_8.out);have n1_:=A0_.mk (Kd.R_drew HO_9.out);have n2_:=A0_.mk (Kd.R_drew HO_213000.out);have n3_:=A0_.mk (Kd.R_drew HO_218000.out);have n4_:=A0_.mk (Kd.R_drew HO_223000.out);have n5_:=A0_.mk (bkD BK212.out);have n6_:=A0_.mk (bkD BK217.out);have n7_:=A0_.mk (bkD BK222.out);have n8_:=A0_.mk (bdr HB.out);clear HO_8;clear HO_9;clear HO_213000;clear HO_218000;clear HO_223000;clear BK212;clear BK217;clear BK222;clear HB;have HO_8:=n0_;have HO_9:=n1_;have HO_213000:=n2_;have HO_218000:=n3_;have HO_223000:=n4_;have BK212:=n5_;have BK217:=n6_;have BK222:=n7_;have HB:=n8_;clear n0_ n1_ n2_ n3_ n4_ n5_ n6_ n7_ n8_;refine start_ (n:=10) (S:=fun w'=>w'.cell? ⟨gb217,0,none⟩=some (.slice Ao13 t213.length co13)∧w'.cell? ⟨gb217,1,none⟩=some (.int .i64 t216)) (ds:=[]) #[n_,n_,n_,n_,n_,n_,n_,n_,n_,n_] (by kernel_rfl) rfl rfl ⟨(bkC BK217.out 0).trans rfl,(bkC BK217.out 1).trans rfl⟩ (fun hHeld=>?_);refine with_tabW lFF.tab20 lFF.bits20 (fun HT_ HW_=>?_)
            generalize wr.drew=w95 at HO_8 HO_9 HO_213000 HO_218000 HO_223000 BK212 BK217 BK222 HB hHeld ⊢
            refine pure_ (i:=0) (N:=some 119) (v:=?_) (a':=?_) #[y_,n_,n_,n_,n_,n_,n_,n_,n_,n_] rfl rfl (any_of HT_.out (by kernel_rfl)) (fun _ _ _ h=>h) (Or.inl ⟨by rfl,?_⟩) ?_ ?_;rotate_left
            ·intro w'
             go_simp;with_reducible rfl
            rotate_left
            ·simp only [Act.put,List.setIfInBounds_toArray,List.set_cons_zero,List.set_cons_succ,i64_w,i32_w]
             rfl
            refine pure_ (i:=2) (N:=some 121) (v:=?_) (a':=?_) #[y_,n_,y_,n_,n_,n_,n_,n_,n_,n_] rfl rfl (any_of HT_.out (by kernel_rfl)) (fun _ _ _ h=>h) (Or.inl ⟨by rfl,?_⟩) ?_ ?_;rotate_left
            ·intro w'
             go_simp;with_reducible rfl
            rotate_left
            ·simp only [Act.put,List.setIfInBounds_toArray,List.set_cons_zero,List.set_cons_succ,i64_w,i32_w]
             rfl
            refine pure_ (i:=3) (N:=some 122) (v:=?_) (a':=?_) #[y_,n_,y_,y_,n_,n_,n_,n_,n_,n_] rfl rfl (any_of HT_.out (by kernel_rfl)) (fun _ _ _ h=>h) (Or.inl ⟨by rfl,?_⟩) ?_ ?_;rotate_left
            ·intro w'
             go_simp;with_reducible rfl
            rotate_left
            ·simp only [Act.put,List.setIfInBounds_toArray,List.set_cons_zero,List.set_cons_succ,i64_w,i32_w]
             rfl
            refine pure_ (i:=6) (N:=some 125) (v:=?_) (a':=?_) #[y_,n_,y_,y_,n_,n_,y_,n_,n_,n_] rfl rfl (any_of HT_.out (by kernel_rfl)) (fun _ _ _ h=>h) (Or.inl ⟨by rfl,?_⟩) ?_ ?_;rotate_left
            ·intro w'
             go_simp;with_reducible rfl
            rotate_left
            ·simp only [Act.put,List.setIfInBounds_toArray,List.set_cons_zero,List.set_cons_succ,i64_w,i32_w]
             rfl
            refine take_ (i:=1) (N:=some 120) (v:=?_) (a':=?_) #[y_,y_,y_,y_,n_,n_,y_,n_,n_,n_] rfl rfl (take_ofW HT_.out HW_.out (by kernel_rfl)) (fun _ _ _ h=>h) (Or.inl ⟨by rfl,?_⟩) hHeld ?_ ?_;rotate_left
            ·rintro w' ⟨s0,s1⟩
             go_simp;with_reducible rfl
            rotate_left
            ·simp only [Act.put,List.setIfInBounds_toArray,List.set_cons_zero,List.set_cons_succ,i64_w,i32_w]
             rfl
            refine take_ (i:=7) (N:=some 126) (v:=?_) (a':=?_) #[y_,y_,y_,y_,n_,n_,y_,y_,n_,n_] rfl rfl (take_ofW HT_.out HW_.out (by kernel_rfl)) (fun _ _ _ h=>h) (Or.inl ⟨by rfl,?_⟩) hHeld ?_ ?_;rotate_left
            ·rintro w' ⟨s0,s1⟩
             go_simp;with_reducible rfl
            rotate_left
            ·simp only [Act.put,List.setIfInBounds_toArray,List.set_cons_zero,List.set_cons_succ,i64_w,i32_w]
             rfl
            refine one_ (i:=4) (N:=some 123) #[y_,y_,y_,y_,y_,n_,y_,y_,n_,n_] rfl rfl (one_of HT_.out (by kernel_rfl)) (by decide) (fun K hK=>?_);refine goes_ Try.func35 (by kernel_rfl) rfl #[.agg #[.slice Ao13 t213.length co13],.int .i64 t210,.string t211] (by rfl) rfl rfl (by (try simp only [List.map_toArray,List.map_cons,List.map_nil]);first|done|rfl|(simp only [List.length_drop,List.length_take];rfl)) ?_
            with_reducible refine (impl_Grow.calls k3 _ _ t213 t210 t211 t239 t242 _ ?side1 ?side2 A94.out).mono ?_
            (case side1=>repeat (first|exact (Kd.R_reads' HO_218000.out).2.2|(with_reducible refine Kd.C_alloc ?_ _)|(with_reducible refine Kd.C_drewN ?_ _)|(with_reducible refine Kd.C_drew ?_)))
            (case side2=>exact (Kd.R_reads' HO_218000.out).2.1)
            rintro e w96 ⟨v240,rfl,ho0,hb⟩
            refine ⟨_,rfl,?_⟩;have n0_:=A0_.mk (Kd.R_below (by (with_reducible repeat (first|apply Kd.R_alloc|apply Kd.R_drewN|apply Kd.R_drew));exact HO_8.out) hb);have n1_:=A0_.mk (Kd.R_below (by (with_reducible repeat (first|apply Kd.R_alloc|apply Kd.R_drewN|apply Kd.R_drew));exact HO_9.out) hb);have n2_:=A0_.mk (Kd.R_elder' (by (with_reducible repeat (first|apply Kd.R_alloc|apply Kd.R_drewN|apply Kd.R_drew));exact HO_213000.out) (Kd.R_base ho0) hb);have n3_:=A0_.mk (Kd.R_elder' (by (with_reducible repeat (first|apply Kd.R_alloc|apply Kd.R_drewN|apply Kd.R_drew));exact HO_218000.out) (Kd.R_base ho0) hb);have n4_:=A0_.mk (Kd.R_elder' (by (with_reducible repeat (first|apply Kd.R_alloc|apply Kd.R_drewN|apply Kd.R_drew));exact HO_223000.out) (Kd.R_base ho0) hb);have n5_:=A0_.mk (Kd.R_lower (Kd.R_new' (Kd.R_new' (Kd.R_new' ho0 (Kd.R_lt (by (with_reducible repeat (first|apply Kd.R_alloc|apply Kd.R_drewN|apply Kd.R_drew));exact HO_213000.out))) (Kd.R_lt (by (with_reducible repeat (first|apply Kd.R_alloc|apply Kd.R_drewN|apply Kd.R_drew));exact HO_218000.out))) (Kd.R_lt (by (with_reducible repeat (first|apply Kd.R_alloc|apply Kd.R_drewN|apply Kd.R_drew));exact HO_223000.out))) (bsz (by repeat (first|(with_reducible first|exact HB.out|apply bal|apply pdN|apply bdr|refine bst ?_ GE212.out|refine bst ?_ GE217.out|refine bst ?_ GE222.out)|exact HB.out))));have n6_:=A0_.mk (bkB (g:=gb212) (o:=.cells #[.slice Ao9 t207.length co9] 36 (0,0)) (by (with_reducible repeat first|apply bkN|apply bkD|apply bkA);exact BK212.out) hb);have n7_:=A0_.mk (bkB (g:=gb217) (o:=.cells #[.slice Ao13 t213.length co13,.int .i64 t216] 64 (0,0)) (by (with_reducible repeat first|apply bkN|apply bkD|apply bkA);exact BK217.out) hb);have n8_:=A0_.mk (bkB (g:=gb222) (o:=.cells #[.slice Ao19 t218.length co19,.int .i64 t221] 64 (0,0)) (by (with_reducible repeat first|apply bkN|apply bkD|apply bkA);exact BK222.out) hb);have n9_:=A0_.mk (bsp (by repeat (first|(with_reducible first|exact HB.out|apply bal|apply pdN|apply bdr|refine bst ?_ GE212.out|refine bst ?_ GE217.out|refine bst ?_ GE222.out)|exact HB.out)) hb);clear HO_8;clear HO_9;clear HO_213000;clear HO_218000;clear HO_223000;clear BK212;clear BK217;clear BK222;clear HB;have HO_8:=n0_;have HO_9:=n1_;have HO_213000:=n2_;have HO_218000:=n3_;have HO_223000:=n4_;have HO241:=n5_;have BK212:=n6_;have BK217:=n7_;have BK222:=n8_;have HB:=n9_;clear n0_ n1_ n2_ n3_ n4_ n5_ n6_ n7_ n8_ n9_;(try clear hb);(try clear hb2);(try clear hk);(try clear hi);(try clear ho0);obtain ⟨Ao241,co241,eo241⟩:=Kd.R_slice HO241.out;subst eo241;refine hK.out _ _ ⟨(bkC BK217.out 0).trans rfl,(bkC BK217.out 1).trans rfl⟩ (fun hHeld=>?_);clear hK K;refine norm_ (a':=?_) ?_ ?_;rotate_left
            ·show Act.put _ (some 123) _=_
             simp only [Act.put,List.setIfInBounds_toArray,List.set_cons_zero,List.set_cons_succ,i64_w,i32_w];rfl
            refine pure_ (i:=5) (N:=some 124) (v:=?_) (a':=?_) #[y_,y_,y_,y_,y_,y_,y_,y_,n_,n_] rfl rfl (any_of HT_.out (by kernel_rfl)) (fun _ _ _ h=>h) (Or.inl ⟨by rfl,?_⟩) ?_ ?_;rotate_left
            ·intro w'
             have hfl:∀ (A:Option Addr) (n c:Nat) (x:Int) (w':World),(Instr.field 64 (.agg #[.slice A n c,.int .i64 x]) 1).run Try.prog w'=.ok (.int .i64 x) w':=fun _ _ _ _ _=>by kernel_rfl
             go_simp;with_reducible rfl
            rotate_left
            ·simp only [Act.put,List.setIfInBounds_toArray,List.set_cons_zero,List.set_cons_succ,i64_w,i32_w]
             rfl
            refine pure_ (i:=8) (N:=some 127) (v:=?_) (a':=?_) #[y_,y_,y_,y_,y_,y_,y_,y_,y_,n_] rfl rfl (any_of HT_.out (by kernel_rfl)) (fun _ _ _ h=>h) (Or.inl ⟨by rfl,?_⟩) ?_ ?_;rotate_left
            ·intro w'
             go_simp;with_reducible rfl
            rotate_left
            ·simp only [Act.put,List.setIfInBounds_toArray,List.set_cons_zero,List.set_cons_succ,i64_w,i32_w]
             rfl
            refine pure_ (i:=9) (N:=some 2) (v:=?_) (a':=?_) #[y_,y_,y_,y_,y_,y_,y_,y_,y_,y_] rfl rfl (any_of HT_.out (by kernel_rfl)) (fun _ _ _ h=>h) (Or.inl ⟨by rfl,?_⟩) ?_ ?_;rotate_left
            ·intro w'
             go_simp;with_reducible rfl
            rotate_left
            ·simp only [Act.put,List.setIfInBounds_toArray,List.set_cons_zero,List.set_cons_succ,i64_w,i32_w]
             rfl
            refine done_ (done_of HT_.out (by kernel_rfl)) ?_
            try go_wp2
            go_ret;exact ⟨by first|rfl|(simp [errW_none,errW_some] <;> rfl)|(simp [*,errW_none,errW_some] <;> rfl),by repeat (first|(with_reducible first|exact HB.out|apply bal|apply pdN|apply bdr|refine bst ?_ GE212.out|refine bst ?_ GE217.out|refine bst ?_ GE222.out)|exact HB.out)⟩

/-- THE ONE PURE STATEMENT of lFF: yours. -/
def lFF.Pure:Prop:=∀ (l0:List Int),l0.length≤maxLen → l0.length * 1≤140737488351232 → (∀ x ∈ l0,(Lit.int .u8 x).wf=true) → ∃ k,lFF.f k l0=some true
theorem lFF.walk (P:lFF.Pure) (a0:Option Addr) (len0 cap0:Nat) (z0:List Int) (w:World) (w0:(a0=none∧len0=0∧cap0=0∧z0=[])∨∃ x,a0=some x∧len0≤cap0∧cap0≤maxLen∧z0.length=cap0∧(∀ i,i < z0.length → w.cell? (x.add i)=some (.int .u8 (z0.getD i 0)))∧∀ n ∈ z0,(Lit.int .u8 n).wf=true) (y0:len0 * 1≤140737488351232) :
  Calls Try.prog 9 #[.slice a0 len0 cap0] w fun e w'=>e=.returned (.bool true)∧Below w.heap.size w w':=by
 obtain ⟨l0,rfl,hr0,hm0,hw0,hc0⟩:=ReadsInt.ofRowC w0;obtain ⟨k,h⟩:=P l0 hm0 y0 hw0;refine (lFF.calls k _ _ l0 true w (Kd.C_of_reads (d:=(0:Int)) (h1:=fun _=>rfl) hr0) hc0 h).mono ?_
 rintro e w' ⟨rfl,hd⟩
 exact ⟨rfl,hd⟩

end Go.Proofs.Ytclploookcjcbaa.PFr
