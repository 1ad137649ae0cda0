/- Proved: each Go function that is named below comes to the answers of the Lean function printed for it. Printed by a changed copy of the kit's print program (wip/mkpk.py), for this claim. -/
import Derived.Test.YtclploookcjcbaaPFrx0
import Derived.Test.YtclploookcjcbaaPFrD
namespace Go.Proofs.Ytclploookcjcbaa.PFr
open Go.RowKit Go.Proofs.YtclploookcjcbaaW.PrintWords Go.Proofs.YtclploookcjcbaaW.PrintLast Go.Proofs.YtclploookcjcbaaW.PrintMore
attribute [local go_sem] max2_int min2_int max_two min_two max_three min_three max_four min_four   -- for this text's walks alone
set_option linter.unusedVariables false
set_option linter.unusedSimpArgs false

/-! ### impl_Fields: function 29 -/
def impl_Fields.f (k:Nat) (l0_0:List (S75)) (a1:Int):Option (List ByteArray):=(impl_Forest_has.f k l0_0 a1).bind fun t129=>(if t129=true then ((iFf.f k l0_0 a1).bind fun t130=>(some t130)) else (some ([]:List ByteArray)))
theorem impl_Fields.mono:∀ a0 a1 k,LeO (impl_Fields.f k a0 a1) (impl_Fields.f (k+1) a0 a1):=by
 intro a0 a1 k
 unfold impl_Fields.f
 repeat' first
   |(with_reducible exact iFf.mono _ _ _)
   |(with_reducible exact impl_Forest_has.mono _ _ _)
   |(with_reducible exact LeO.refl _)
   |(with_reducible exact LeO.none _)
   |(with_reducible refine LeO.ite ?_ ?_)
   |(with_reducible refine LeO.bind ?_ (fun _=>?_))
   |exact iFf.mono _ _ _
   |exact impl_Forest_has.mono _ _ _
   |exact LeO.none _
   |refine LeO.ite ?_ ?_
   |refine LeO.bind ?_ (fun _=>?_)
set_option maxHeartbeats 8000000 in
set_option maxRecDepth 100000 in
theorem impl_Fields.calls (k:Nat) (A0_0:Option Addr) (c0_0:Nat) (l0_0:List (S75)) (a1:Int) (r:List ByteArray) (w:World) (hr0_0:Kd.C k75 w A0_0 l0_0.length l0_0) (hc0_0:l0_0.length≤c0_0) (h:impl_Fields.f k l0_0 a1=some r) :
  Calls Try.prog 29 #[.agg #[.slice A0_0 l0_0.length c0_0],.int .i64 a1] w fun e w'=>∃ v0_:Value,e=.returned (v0_)∧Kd.R Kd.string 9 w' w.heap.size (fun _=>True) v0_ r∧Below w.heap.size w w':=by
 have hu36:=Try.underlying36;have HR0_0:=A0_.mk hr0_0;have HC0_0:=A0_.mk hc0_0;clear hr0_0 hc0_0;have HB:=A0_.mk (Below.refl w.heap.size w);have H:((impl_Forest_has.f k l0_0 a1).bind fun t129=>(if t129=true then ((iFf.f k l0_0 a1).bind fun t130=>(some t130)) else (some ([]:List ByteArray))))=some r:=h;clear h;replace H:=Option.bind_eq_some_iff.mp H;obtain ⟨t129,A30,H⟩:=H
 replace H:(if t129=true then ((iFf.f k l0_0 a1).bind fun t130=>(some t130)) else (some ([]:List ByteArray)))=some r:=H
 have A3:=A0_.mk A30;clear A30
 by_cases c4:t129=true
 ·subst c4
  have H1:((iFf.f k l0_0 a1).bind fun t130=>(some t130))=some r:=by rw [if_pos rfl] at H;exact H
  clear H;have H:=H1;clear H1;replace H:=Option.bind_eq_some_iff.mp H;obtain ⟨t130,A50,H⟩:=H
  replace H:(some t130)=some r:=H
  have A5:=A0_.mk A50;clear A50
  obtain rfl:=Option.some.inj H
  go_enter Try.func29,Try.ntmps29
  go_wp2_with (first|((with_reducible refine gtD (N:=2) rfl ?_);refine bxE ?hg (N:=2) ?hd (cs:=#[.slice A0_0 l0_0.length c0_0]) (t:=36) ?hr ?_;(case hd=>rfl);(case hg=>rfl);(case hr=>first|(go_simp;done)|(go_simp;rfl));intro gb128 hg w6 hbox hb;have n0_:=A0_.mk (bsp (by repeat (first|(with_reducible first|exact HB.out|apply bal|apply pdN|apply bdr)|exact HB.out)) hb);have n1_:=A0_.mk (hbox);have n2_:=A0_.mk ((by rw [hg];exact (bsz (by repeat (first|(with_reducible first|exact HB.out|apply bal|apply pdN|apply bdr)|exact HB.out))):w.heap.size≤gb128));have n3_:=A0_.mk ((by rw [hg];exact (bsz (by repeat (first|(with_reducible first|exact HB.out|apply bal|apply pdN|apply bdr)|exact HB.out))):w.heap.size≤gb128));clear HB;have HB:=n0_;have BK128:=n1_;have GW128:=n2_;have GE128:=n3_;clear n0_ n1_ n2_ n3_;clear hb hbox hg;have hcz7_0:w6.cell? ⟨gb128,0,none⟩=some (.slice A0_0 l0_0.length c0_0):=(bkC BK128.out 0).trans rfl;have hfz7_0:=bkF BK128.out 0)|((with_reducible refine gtC (f:=65) rfl ?_);refine goesL_ (some 7) rfl rfl Try.func65 (by kernel_rfl) rfl #[.agg #[.slice A0_0 l0_0.length c0_0],.int .i64 a1] rfl (by (try simp only [List.map_toArray,List.map_cons,List.map_nil]);first|done|rfl|(simp only [List.length_drop,List.length_take];rfl)) ?_;(with_reducible refine (impl_Forest_has.calls k _ _ l0_0 a1 true _ ?side1 ?side2 A3.out).mono ?_);(case side1=>repeat (first|exact (Kd.C_below HR0_0.out HB.out)|(with_reducible refine Kd.C_alloc ?_ _)|(with_reducible refine Kd.C_drewN ?_ _)|(with_reducible refine Kd.C_drew ?_)));(case side2=>exact HC0_0.out);rintro e w8 ⟨rfl,hb⟩;refine ⟨_,rfl,?_⟩;have n0_:=A0_.mk (bkB (g:=gb128) (o:=.cells #[.slice A0_0 l0_0.length c0_0] 36 (0,0)) (by (with_reducible repeat first|apply bkN|apply bkD|apply bkA);exact BK128.out) hb);have n1_:=A0_.mk (bsp (by repeat (first|(with_reducible first|exact HB.out|apply bal|apply pdN|apply bdr|refine bst ?_ GE128.out)|exact HB.out)) hb);clear BK128;clear HB;have BK128:=n0_;have HB:=n1_;clear n0_ n1_;(try clear hb);(try clear hb2);(try clear hk);(try clear hi);have hcz9_0:w8.cell? ⟨gb128,0,none⟩=some (.slice A0_0 l0_0.length c0_0):=(bkC BK128.out 0).trans rfl;have hfz9_0:=bkF BK128.out 0)|((with_reducible refine gtC (f:=57) rfl ?_);refine goesL_ (some 11) rfl rfl Try.func57 (by kernel_rfl) rfl #[.agg #[.slice A0_0 l0_0.length c0_0],.int .i64 a1] rfl (by (try simp only [List.map_toArray,List.map_cons,List.map_nil]);first|done|rfl|(simp only [List.length_drop,List.length_take];rfl)) ?_;(with_reducible refine (iFf.calls k _ _ l0_0 a1 t130 _ ?side1 ?side2 A5.out).mono ?_);(case side1=>repeat (first|exact (Kd.C_below HR0_0.out HB.out)|(with_reducible refine Kd.C_alloc ?_ _)|(with_reducible refine Kd.C_drewN ?_ _)|(with_reducible refine Kd.C_drew ?_)));(case side2=>exact HC0_0.out);rintro e w10 ⟨v131,rfl,ho0,hb⟩;refine ⟨_,rfl,?_⟩;have n0_:=A0_.mk (Kd.R_lower ho0 (bsz (by repeat (first|(with_reducible first|exact HB.out|apply bal|apply pdN|apply bdr|refine bst ?_ GE128.out)|exact HB.out))));have n1_:=A0_.mk (bkB (g:=gb128) (o:=.cells #[.slice A0_0 l0_0.length c0_0] 36 (0,0)) (by (with_reducible repeat first|apply bkN|apply bkD|apply bkA);exact BK128.out) hb);have n2_:=A0_.mk (bsp (by repeat (first|(with_reducible first|exact HB.out|apply bal|apply pdN|apply bdr|refine bst ?_ GE128.out)|exact HB.out)) hb);clear BK128;clear HB;have HO132:=n0_;have BK128:=n1_;have HB:=n2_;clear n0_ n1_ n2_;(try clear hb);(try clear hb2);(try clear hk);(try clear hi);(try clear ho0)))
  go_ret;exact ⟨_,by first|rfl|(simp [errW_none,errW_some] <;> rfl)|(simp [*,errW_none,errW_some] <;> rfl),by (with_reducible repeat (first|apply Kd.R_alloc|apply Kd.R_drewN|apply Kd.R_drew));exact HO132.out,by repeat (first|(with_reducible first|exact HB.out|apply bal|apply pdN|apply bdr|refine bst ?_ GE128.out)|exact HB.out)⟩
 ·replace c4:=Bool.eq_false_iff.mpr c4
  subst c4;have H1:(some ([]:List ByteArray))=some r:=by rw [if_neg (show ¬ (false=true) by decide)] at H;exact H
  clear H;have H:=H1;clear H1
  obtain rfl:=Option.some.inj H
  go_enter Try.func29,Try.ntmps29
  go_wp2_with (first|((with_reducible refine gtD (N:=2) rfl ?_);refine bxE ?hg (N:=2) ?hd (cs:=#[.slice A0_0 l0_0.length c0_0]) (t:=36) ?hr ?_;(case hd=>rfl);(case hg=>rfl);(case hr=>first|(go_simp;done)|(go_simp;rfl));intro gb128 hg w11 hbox hb;have n0_:=A0_.mk (bsp (by repeat (first|(with_reducible first|exact HB.out|apply bal|apply pdN|apply bdr)|exact HB.out)) hb);have n1_:=A0_.mk (hbox);have n2_:=A0_.mk ((by rw [hg];exact (bsz (by repeat (first|(with_reducible first|exact HB.out|apply bal|apply pdN|apply bdr)|exact HB.out))):w.heap.size≤gb128));have n3_:=A0_.mk ((by rw [hg];exact (bsz (by repeat (first|(with_reducible first|exact HB.out|apply bal|apply pdN|apply bdr)|exact HB.out))):w.heap.size≤gb128));clear HB;have HB:=n0_;have BK128:=n1_;have GW128:=n2_;have GE128:=n3_;clear n0_ n1_ n2_ n3_;clear hb hbox hg;have hcz12_0:w11.cell? ⟨gb128,0,none⟩=some (.slice A0_0 l0_0.length c0_0):=(bkC BK128.out 0).trans rfl;have hfz12_0:=bkF BK128.out 0)|((with_reducible refine gtC (f:=65) rfl ?_);refine goesL_ (some 7) rfl rfl Try.func65 (by kernel_rfl) rfl #[.agg #[.slice A0_0 l0_0.length c0_0],.int .i64 a1] rfl (by (try simp only [List.map_toArray,List.map_cons,List.map_nil]);first|done|rfl|(simp only [List.length_drop,List.length_take];rfl)) ?_;(with_reducible refine (impl_Forest_has.calls k _ _ l0_0 a1 false _ ?side1 ?side2 A3.out).mono ?_);(case side1=>repeat (first|exact (Kd.C_below HR0_0.out HB.out)|(with_reducible refine Kd.C_alloc ?_ _)|(with_reducible refine Kd.C_drewN ?_ _)|(with_reducible refine Kd.C_drew ?_)));(case side2=>exact HC0_0.out);rintro e w13 ⟨rfl,hb⟩;refine ⟨_,rfl,?_⟩;have n0_:=A0_.mk (bkB (g:=gb128) (o:=.cells #[.slice A0_0 l0_0.length c0_0] 36 (0,0)) (by (with_reducible repeat first|apply bkN|apply bkD|apply bkA);exact BK128.out) hb);have n1_:=A0_.mk (bsp (by repeat (first|(with_reducible first|exact HB.out|apply bal|apply pdN|apply bdr|refine bst ?_ GE128.out)|exact HB.out)) hb);clear BK128;clear HB;have BK128:=n0_;have HB:=n1_;clear n0_ n1_;(try clear hb);(try clear hb2);(try clear hk);(try clear hi)))
  go_ret;exact ⟨_,by first|rfl|(simp [errW_none,errW_some] <;> rfl)|(simp [*,errW_none,errW_some] <;> rfl),by first|exact Kd.R_nil _ _ _ _ _|exact Kd.N_nil _ _ _ _ _|exact Kd.V_nil _ _ _ _ _|exact Kd.Q_nil _ _ _ _ _|exact Kd.S_nil _ _ _ _ _,by repeat (first|(with_reducible first|exact HB.out|apply bal|apply pdN|apply bdr|refine bst ?_ GE128.out)|exact HB.out)⟩


/-! ### impl_FieldAt: function 27 -/
def impl_FieldAt.f (k:Nat) (l0_0:List (S75)) (a1:Int) (a2:ByteArray):Option (Int):=(impl_Fields.f k l0_0 a1).bind fun t135=>((sIdx.f k t135 a2).bind fun t138=>(some t138))
theorem impl_FieldAt.mono:∀ a0 a1 a2 k,LeO (impl_FieldAt.f k a0 a1 a2) (impl_FieldAt.f (k+1) a0 a1 a2):=by
 intro a0 a1 a2 k
 unfold impl_FieldAt.f
 repeat' first
   |(with_reducible exact impl_Fields.mono _ _ _)
   |(with_reducible exact sIdx.mono _ _ _)
   |(with_reducible exact LeO.refl _)
   |(with_reducible exact LeO.none _)
   |(with_reducible refine LeO.ite ?_ ?_)
   |(with_reducible refine LeO.bind ?_ (fun _=>?_))
   |exact impl_Fields.mono _ _ _
   |exact sIdx.mono _ _ _
   |exact LeO.none _
   |refine LeO.ite ?_ ?_
   |refine LeO.bind ?_ (fun _=>?_)
set_option maxHeartbeats 8000000 in
set_option maxRecDepth 100000 in
theorem impl_FieldAt.calls (k:Nat) (A0_0:Option Addr) (c0_0:Nat) (l0_0:List (S75)) (a1:Int) (a2:ByteArray) (r:Int) (w:World) (hr0_0:Kd.C k75 w A0_0 l0_0.length l0_0) (hc0_0:l0_0.length≤c0_0) (h:impl_FieldAt.f k l0_0 a1 a2=some r) :
  Calls Try.prog 27 #[.agg #[.slice A0_0 l0_0.length c0_0],.int .i64 a1,.string a2] w fun e w'=>e=.returned (.int .i64 r)∧Below w.heap.size w w':=by
 have hu36:=Try.underlying36;have HR0_0:=A0_.mk hr0_0;have HC0_0:=A0_.mk hc0_0;clear hr0_0 hc0_0;have HB:=A0_.mk (Below.refl w.heap.size w);have H:((impl_Fields.f k l0_0 a1).bind fun t135=>((sIdx.f k t135 a2).bind fun t138=>(some t138)))=some r:=h;clear h;replace H:=Option.bind_eq_some_iff.mp H;obtain ⟨t135,A40,H⟩:=H
 replace H:((sIdx.f k t135 a2).bind fun t138=>(some t138))=some r:=H
 have A4:=A0_.mk A40;clear A40;replace H:=Option.bind_eq_some_iff.mp H;obtain ⟨t138,A50,H⟩:=H
 replace H:(some t138)=some r:=H
 have A5:=A0_.mk A50;clear A50
 obtain rfl:=Option.some.inj H
 go_enter Try.func27,Try.ntmps27
 go_wp2_with (first|((with_reducible refine gtD (N:=3) rfl ?_);refine bxE ?hg (N:=3) ?hd (cs:=#[.slice A0_0 l0_0.length c0_0]) (t:=36) ?hr ?_;(case hd=>rfl);(case hg=>rfl);(case hr=>first|(go_simp;done)|(go_simp;rfl));intro gb134 hg w6 hbox hb;have n0_:=A0_.mk (bsp (by repeat (first|(with_reducible first|exact HB.out|apply bal|apply pdN|apply bdr)|exact HB.out)) hb);have n1_:=A0_.mk (hbox);have n2_:=A0_.mk ((by rw [hg];exact (bsz (by repeat (first|(with_reducible first|exact HB.out|apply bal|apply pdN|apply bdr)|exact HB.out))):w.heap.size≤gb134));have n3_:=A0_.mk ((by rw [hg];exact (bsz (by repeat (first|(with_reducible first|exact HB.out|apply bal|apply pdN|apply bdr)|exact HB.out))):w.heap.size≤gb134));clear HB;have HB:=n0_;have BK134:=n1_;have GW134:=n2_;have GE134:=n3_;clear n0_ n1_ n2_ n3_;clear hb hbox hg;have hcz7_0:w6.cell? ⟨gb134,0,none⟩=some (.slice A0_0 l0_0.length c0_0):=(bkC BK134.out 0).trans rfl;have hfz7_0:=bkF BK134.out 0)|((with_reducible refine gtC (f:=29) rfl ?_);refine goesL_ (some 9) rfl rfl Try.func29 (by kernel_rfl) rfl #[.agg #[.slice A0_0 l0_0.length c0_0],.int .i64 a1] rfl (by (try simp only [List.map_toArray,List.map_cons,List.map_nil]);first|done|rfl|(simp only [List.length_drop,List.length_take];rfl)) ?_;(with_reducible refine (impl_Fields.calls k _ _ l0_0 a1 t135 _ ?side1 ?side2 A4.out).mono ?_);(case side1=>repeat (first|exact (Kd.C_below HR0_0.out HB.out)|(with_reducible refine Kd.C_alloc ?_ _)|(with_reducible refine Kd.C_drewN ?_ _)|(with_reducible refine Kd.C_drew ?_)));(case side2=>exact HC0_0.out);rintro e w8 ⟨v136,rfl,ho0,hb⟩;refine ⟨_,rfl,?_⟩;have n0_:=A0_.mk (Kd.R_lower ho0 (bsz (by repeat (first|(with_reducible first|exact HB.out|apply bal|apply pdN|apply bdr|refine bst ?_ GE134.out)|exact HB.out))));have n1_:=A0_.mk (bkB (g:=gb134) (o:=.cells #[.slice A0_0 l0_0.length c0_0] 36 (0,0)) (by (with_reducible repeat first|apply bkN|apply bkD|apply bkA);exact BK134.out) hb);have n2_:=A0_.mk (bsp (by repeat (first|(with_reducible first|exact HB.out|apply bal|apply pdN|apply bdr|refine bst ?_ GE134.out)|exact HB.out)) hb);clear BK134;clear HB;have HO137:=n0_;have BK134:=n1_;have HB:=n2_;clear n0_ n1_ n2_;(try clear hb);(try clear hb2);(try clear hk);(try clear hi);(try clear ho0);obtain ⟨Ao9,co9,eo9⟩:=Kd.R_slice HO137.out;subst eo9)|((with_reducible refine gtC (f:=63) rfl ?_);refine goesL_ (some 11) rfl rfl Try.func63 (by kernel_rfl) rfl #[.slice Ao9 t135.length co9,.string a2] rfl (by (try simp only [List.map_toArray,List.map_cons,List.map_nil]);first|done|rfl|(simp only [List.length_drop,List.length_take];rfl)) ?_;(with_reducible refine (sIdx.calls k _ _ t135 a2 t138 _ ?side1 ?side2 A5.out).mono ?_);(case side1=>repeat (first|exact (Kd.R_reads' HO137.out).2.2|(with_reducible refine Kd.C_alloc ?_ _)|(with_reducible refine Kd.C_drewN ?_ _)|(with_reducible refine Kd.C_drew ?_)));(case side2=>exact (Kd.R_reads' HO137.out).2.1);rintro e w' ⟨rfl,⟨nd,rfl⟩⟩;refine ⟨_,rfl,?_⟩))
 go_ret;exact ⟨by first|rfl|(simp [errW_none,errW_some] <;> rfl)|(simp [*,errW_none,errW_some] <;> rfl),by repeat (first|(with_reducible first|exact HB.out|apply bal|apply pdN|apply bdr|refine bst ?_ GE134.out)|exact HB.out)⟩

end Go.Proofs.Ytclploookcjcbaa.PFr
