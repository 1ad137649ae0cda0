/- Proved: each Go function that is named below comes to the answers of the Lean function printed for it. Printed by a changed copy of the kit's print program (wip/mkpk.py), for this claim. -/
import Derived.Test.YtclploookcjcbaaPFrx0
namespace Go.Proofs.Ytclploookcjcbaa.PFr
open Go.RowKit Go.Proofs.YtclploookcjcbaaW.PrintWords Go.Proofs.YtclploookcjcbaaW.PrintLast Go.Proofs.YtclploookcjcbaaW.PrintMore
attribute [local go_sem] max2_int min2_int max_two min_two max_three min_three max_four min_four   -- for this text's walks alone
set_option linter.unusedVariables false
set_option linter.unusedSimpArgs false

/-! ### spec_Empty: function 16 -/
def spec_Empty.f :Option ((List (S75)) × (List (S115)) × (List (S118))):=some ((([(⟨(-1),(⟨#[]⟩:ByteArray),0⟩:S75)]:List (S75))),([]:List (S115)),([]:List (S118)))
set_option maxHeartbeats 8000000 in
set_option maxRecDepth 100000 in
theorem spec_Empty.calls  (r1:List (S75)) (r2:List (S115)) (r3:List (S118)) (w:World) (h:spec_Empty.f =some (r1,r2,r3)) :
  Calls Try.prog 16 #[] w fun e w'=>∃ v0_ v1_ v2_:Value,e=.returned (.agg #[v0_,v1_,v2_])∧Kd.R k75 75 w' w.heap.size (fun _=>True) v0_ r1∧Kd.S k115 115 w' w.heap.size (fun _=>True) v1_ r2∧Kd.R k118 118 w' w.heap.size (fun _=>True) v2_ r3∧Below w.heap.size w w':=by
 have hu40:=Try.underlying40;have hu75:=Try.underlying75;have hu36:=Try.underlying36;have HB:=A0_.mk (Below.refl w.heap.size w);have H:(some ((([(⟨(-1),(⟨#[]⟩:ByteArray),0⟩:S75)]:List (S75))),([]:List (S115)),([]:List (S118))))=some (r1,r2,r3):=h;clear h;obtain ⟨y140,hy140⟩:∃ y_:List (S75),y_=(([(⟨(-1),(⟨#[]⟩:ByteArray),0⟩:S75)]:List (S75))):=⟨_,rfl⟩
 replace H:(some (y140,([]:List (S115)),([]:List (S118))))=some (r1,r2,r3):=by first|(rw [hy140];with_reducible exact H)|(have H2_:=(Option.bind_some _ _).symm.trans H;rw [hy140];with_reducible exact H2_)|(have H2_:=(Option.bind_some _ _).symm.trans H;with_reducible exact H2_)|with_reducible exact H|(rw [hy140];exact H)|exact H
 have Ny140:=A0_.mk hy140;clear hy140;simp only [Option.some.injEq,Prod.mk.injEq] at H;obtain ⟨rfl,rfl,rfl⟩:=H
 go_enter Try.func16,Try.ntmps16
 go_wp2_with (first|((with_reducible refine gtD (N:=0) rfl ?_);refine bxE ?hg (N:=0) ?hd (cs:=#[.slice none 0 0,.slice none 0 0,.slice none 0 0]) (t:=40) ?hr ?_;(case hd=>rfl);(case hg=>rfl);(case hr=>first|(go_simp;done)|(go_simp;rfl));intro gb139 hg w1 hbox hb;have n0_:=A0_.mk (bsp (by repeat (first|(with_reducible first|exact HB.out|apply bal|apply pdN|apply bdr)|exact HB.out)) hb);have n1_:=A0_.mk (hbox);have n2_:=A0_.mk ((by rw [hg];exact (bsz (by repeat (first|(with_reducible first|exact HB.out|apply bal|apply pdN|apply bdr)|exact HB.out))):w.heap.size≤gb139));have n3_:=A0_.mk ((by rw [hg];exact (bsz (by repeat (first|(with_reducible first|exact HB.out|apply bal|apply pdN|apply bdr)|exact HB.out))):w.heap.size≤gb139));clear HB;have HB:=n0_;have BK139:=n1_;have GW139:=n2_;have GE139:=n3_;clear n0_ n1_ n2_ n3_;clear hb hbox hg)|((with_reducible refine gtD (N:=2) rfl ?_);refine Kd.R_lit k75 _ 75 ?hg (N:=2) ?hd (xs:=([(⟨(-1),(⟨#[]⟩:ByteArray),0⟩:S75)]:List (S75))) (inner:=[.int .i64 (-1),.string (⟨#[]⟩:ByteArray),.int .i64 0]) (ok:=fun _=>True) (okp:=fun _=>True) ?hr ?hp (fun _ hk=>hk) trivial (Below.refl _ _) (Nat.le_refl _) (by simp) ?_;(case hd=>rfl);(case hg=>rfl);(case hr=>first|(go_simp;done)|(go_simp;rfl));(case hp=>exact (Reps.c3 (show Kd.M k75 _ _ _ (⟨(-1),(⟨#[]⟩:ByteArray),0⟩:S75) [.int .i64 (-1),.string (⟨#[]⟩:ByteArray),.int .i64 0] from (k75_mkM _ _ _ (⟨(-1),(⟨#[]⟩:ByteArray),0⟩:S75) )) (Reps.none _ _)));intro v141 w2 ho3 hb hg_ hnew_;clear hg_ hnew_;(first|rw [← Ny140.out] at ho3|(simp only [Int.reduceToNat] at ho3;rw [← Ny140.out] at ho3));have n0_:=A0_.mk (Kd.R_lower ho3 (bsz (by repeat (first|(with_reducible first|exact HB.out|apply bal|apply pdN|apply bdr|refine bst ?_ GE139.out)|exact HB.out))));have n1_:=A0_.mk (bkB (g:=gb139) (o:=.cells #[.slice none 0 0,.slice none 0 0,.slice none 0 0] 40 (0,0)) (by (with_reducible repeat first|apply bkN|apply bkD|apply bkA);exact BK139.out) hb);have n2_:=A0_.mk (bsp (by repeat (first|(with_reducible first|exact HB.out|apply bal|apply pdN|apply bdr|refine bst ?_ GE139.out)|exact HB.out)) hb);clear BK139;clear HB;have HO142:=n0_;have BK139:=n1_;have HB:=n2_;clear n0_ n1_ n2_;clear hb ho3;obtain ⟨Ao4,co4,eo4⟩:=Kd.R_slice HO142.out;subst eo4;have hcz5_0:w2.cell? ⟨gb139,0,none⟩=some (.slice none 0 0):=(bkC BK139.out 0).trans rfl;have hcz5_1:w2.cell? ⟨gb139,1,none⟩=some (.slice none 0 0):=(bkC BK139.out 1).trans rfl;have hcz5_2:w2.cell? ⟨gb139,2,none⟩=some (.slice none 0 0):=(bkC BK139.out 2).trans rfl;have hfz5_0:=bkF BK139.out 0;have hfz5_1:=bkF BK139.out 1;have hfz5_2:=bkF BK139.out 2))
 refine bodyPost_ret (results_cell_row rfl _ _ gb139 40 #[.slice Ao4 y140.length co4,.slice none 0 0,.slice none 0 0] (0,0) _ rfl (by (with_reducible repeat first|apply bkN|apply bkD|apply bkA);refine bkP (cs:=#[.slice Ao4 y140.length co4,.slice none 0 0,.slice none 0 0]) ?_ 2 _ rfl;(with_reducible repeat first|apply bkN|apply bkD|apply bkA);refine bkP (cs:=#[.slice Ao4 y140.length co4,.slice none 0 0,.slice none 0 0]) ?_ 1 _ rfl;(with_reducible repeat first|apply bkN|apply bkD|apply bkA);refine bkP (cs:=#[.slice none 0 0,.slice none 0 0,.slice none 0 0]) ?_ 0 _ rfl;(with_reducible repeat first|apply bkN|apply bkD|apply bkA);exact BK139.out) Try.underlying40 rfl (by kernel_rfl)) rfl ?_;exact ⟨_,_,_,by first|rfl|(simp [errW_none,errW_some] <;> rfl)|(simp [*,errW_none,errW_some] <;> rfl),by (with_reducible repeat (first|apply Kd.R_alloc|apply Kd.R_drewN|apply Kd.R_drew));exact Kd.R_mono (Kd.R_far (p:=⟨gb139,2,none⟩) (Kd.R_far (p:=⟨gb139,1,none⟩) (Kd.R_far (p:=⟨gb139,0,none⟩) (Kd.R_types HO142.out BK139.out (by decide)) (fun _ hk=>hk.2) (.slice Ao4 y140.length co4)) (fun _ hk=>hk.2) (.slice none 0 0)) (fun _ hk=>hk.2) (.slice none 0 0)) (fun _ hk=>trivial),by first|exact Kd.S_nil _ _ _ _ _|exact Kd.N_nil _ _ _ _ _|exact Kd.V_nil _ _ _ _ _|exact Kd.Q_nil _ _ _ _ _|exact Kd.R_nil _ _ _ _ _,by first|exact Kd.R_nil _ _ _ _ _|exact Kd.N_nil _ _ _ _ _|exact Kd.V_nil _ _ _ _ _|exact Kd.Q_nil _ _ _ _ _|exact Kd.S_nil _ _ _ _ _,by repeat (first|(with_reducible first|exact HB.out|apply bal|apply pdN|apply bdr|refine bst ?_ GE139.out)|exact HB.out)⟩


/-! ### c6_next: function 97 -/
def c6_next.f (s0_0:List Int) (s0_1:Int) (s0_2:Int):Option (Int × Int × Int):=if s0_1 < (s0_0.length:Int) then (if 0≤s0_1 then (some (wrap64 (rd s0_0 s0_1),wrap64 (s0_1+1),IntKind.u64.wrap ((IntKind.u64.wrap ((IntKind.u64.wrap (s0_2 * 6364136223846793005))+(IntKind.u64.wrap (rd s0_0 s0_1))))+1442695040888963407))) else (none)) else (some (wrap64 (Go.bits .and .u64 ((IntKind.u64.wrap ((IntKind.u64.wrap (s0_2 * 6364136223846793005))+1442695040888963407)) / 1099511627776) 255),wrap64 (s0_1+1),IntKind.u64.wrap ((IntKind.u64.wrap (s0_2 * 6364136223846793005))+1442695040888963407)))
set_option maxHeartbeats 8000000 in
set_option maxRecDepth 100000 in
theorem c6_next.calls (g:Nat) (s0_0:List Int) (s0_1:Int) (s0_2:Int) (r1:Int) (r2:Int) (r3:Int) (w0 w:World) (hI:I97 w0 w g s0_0 s0_1 s0_2) (hB:Below w0.heap.size w0 w) (h:c6_next.f s0_0 s0_1 s0_2=some (r1,r2,r3)) :
  Calls Try.prog 97 #[.pointer (some ⟨g,0,none⟩)] w fun e w'=>e=.returned (.int .i64 r1)∧I97 w0 w' g s0_0 r2 r3∧Below w0.heap.size w0 w'∧KeepBut w w' g none:=by
 have HI0:=A0_.mk hI;have HK:=A0_.mk (KeepBut.refl w g none);have HL:=A0_.mk hB.size;clear hI;have HW0:=A0_.mk hB.size;have HB:=A0_.mk hB;clear hB;have H:(if s0_1 < (s0_0.length:Int) then (if 0≤s0_1 then (some (wrap64 (rd s0_0 s0_1),wrap64 (s0_1+1),IntKind.u64.wrap ((IntKind.u64.wrap ((IntKind.u64.wrap (s0_2 * 6364136223846793005))+(IntKind.u64.wrap (rd s0_0 s0_1))))+1442695040888963407))) else (none)) else (some (wrap64 (Go.bits .and .u64 ((IntKind.u64.wrap ((IntKind.u64.wrap (s0_2 * 6364136223846793005))+1442695040888963407)) / 1099511627776) 255),wrap64 (s0_1+1),IntKind.u64.wrap ((IntKind.u64.wrap (s0_2 * 6364136223846793005))+1442695040888963407))))=some (r1,r2,r3):=h;clear h
 by_cases c2:s0_1 < (s0_0.length:Int)
 ·rw [if_pos c2] at H
  have c2b0:decide (s0_1 < (s0_0.length:Int))=true:=decide_eq_true c2;clear c2
  by_cases c3:0≤s0_1
  ·rw [if_pos c3] at H
   have c3b0:decide (0≤s0_1)=true:=decide_eq_true c3;clear c3;simp only [Option.some.injEq,Prod.mk.injEq] at H;obtain ⟨rfl,rfl,rfl⟩:=H;obtain ⟨ASz4_0,cSz4_0,HGz4,hgz4,HSz4_0⟩:=HI0.out;have hcz4_0:=cellS97_0 HGz4;have hcz4_1:=cellS97_1 HGz4;have hcz4_2:=cellS97_2 HGz4;have hfz4_1:=bkF HGz4 1;have hfz4_2:=bkF HGz4 2;clear HGz4 hgz4;have p156:0≤(s0_1:Int):=of_decide_eq_true (by first|(with_reducible assumption)|assumption)
   have q156:s0_1 < (s0_0.length:Int):=of_decide_eq_true (by first|(with_reducible assumption)|assumption);obtain ⟨ad156,e156,hx156_0⟩:=Kd.at_int HSz4_0 s0_1 p156 q156;cases e156;replace hx156_0:=pw_cell_below HB.out hx156_0;replace p156:=eq_true p156;replace q156:=eq_true q156
   go_enter Try.func97,Try.ntmps97
   go_wp2
   repeat (go_quiet (fail);try go_wp2)
   go_ret;exact ⟨by first|rfl|(simp [errW_none,errW_some] <;> rfl)|(simp [*,errW_none,errW_some] <;> rfl),by repeat (first|(with_reducible first|exact HI0.out|apply I97.alloc|apply I97.drewN|apply I97.drew|apply I97.set_1|apply I97.set_2)|exact HI0.out),by repeat (first|(with_reducible first|exact HB.out|apply bal|apply pdN|apply bdr|refine bst ?_ (I97.ge HI0.out))|exact HB.out),by repeat (first|(with_reducible first|exact HK.out|apply KeepBut.set_|apply kpN|apply kpD|apply kpA)|exact HK.out)⟩
  ·rw [if_neg c3] at H
   exact absurd H (by simp)
 ·rw [if_neg c2] at H
  have c2b0:decide (s0_1 < (s0_0.length:Int))=false:=decide_eq_false c2;clear c2;simp only [Option.some.injEq,Prod.mk.injEq] at H;obtain ⟨rfl,rfl,rfl⟩:=H;obtain ⟨ASz5_0,cSz5_0,HGz5,hgz5,HSz5_0⟩:=HI0.out;have hcz5_0:=cellS97_0 HGz5;have hcz5_1:=cellS97_1 HGz5;have hcz5_2:=cellS97_2 HGz5;have hfz5_1:=bkF HGz5 1;have hfz5_2:=bkF HGz5 2;clear HGz5 hgz5
  go_enter Try.func97,Try.ntmps97
  go_wp2
  repeat (go_quiet (fail);try go_wp2)
  go_ret;exact ⟨by first|rfl|(simp [errW_none,errW_some] <;> rfl)|(simp [*,errW_none,errW_some] <;> rfl),by repeat (first|(with_reducible first|exact HI0.out|apply I97.alloc|apply I97.drewN|apply I97.drew|apply I97.set_1|apply I97.set_2)|exact HI0.out),by repeat (first|(with_reducible first|exact HB.out|apply bal|apply pdN|apply bdr|refine bst ?_ (I97.ge HI0.out))|exact HB.out),by repeat (first|(with_reducible first|exact HK.out|apply KeepBut.set_|apply kpN|apply kpD|apply kpA)|exact HK.out)⟩


/-! ### c6_pick: function 69 -/
def c6_pick.f (s0_0:List Int) (s0_1:Int) (s0_2:Int) (a1:Int):Option (Int × Int × Int):=if a1≤1 then (some (0,s0_1,s0_2)) else ((c6_next.f s0_0 s0_1 s0_2).bind fun bt157=>(if a1 > 200 then ((c6_next.f s0_0 bt157.2.1 bt157.2.2).bind fun bt160=>(if a1=0 then (none) else (some (Int.tmod (wrap64 ((wrap64 (bt157.1 * 256))+bt160.1)) a1,bt160.2.1,bt160.2.2)))) else (if a1=0 then (none) else (some (Int.tmod bt157.1 a1,bt157.2.1,bt157.2.2)))))
set_option maxHeartbeats 8000000 in
set_option maxRecDepth 100000 in
theorem c6_pick.calls (g:Nat) (s0_0:List Int) (s0_1:Int) (s0_2:Int) (a1:Int) (r1:Int) (r2:Int) (r3:Int) (w0 w:World) (hI:I97 w0 w g s0_0 s0_1 s0_2) (hB:Below w0.heap.size w0 w) (h:c6_pick.f s0_0 s0_1 s0_2 a1=some (r1,r2,r3)) :
  Calls Try.prog 69 #[.pointer (some ⟨g,0,none⟩),.int .i64 a1] w fun e w'=>e=.returned (.int .i64 r1)∧I97 w0 w' g s0_0 r2 r3∧Below w0.heap.size w0 w'∧KeepBut w w' g none:=by
 have HI0:=A0_.mk hI;have HK:=A0_.mk (KeepBut.refl w g none);have HL:=A0_.mk hB.size;clear hI;have HW0:=A0_.mk hB.size;have HB:=A0_.mk hB;clear hB;have H:(if a1≤1 then (some (0,s0_1,s0_2)) else ((c6_next.f s0_0 s0_1 s0_2).bind fun bt157=>(if a1 > 200 then ((c6_next.f s0_0 bt157.2.1 bt157.2.2).bind fun bt160=>(if a1=0 then (none) else (some (Int.tmod (wrap64 ((wrap64 (bt157.1 * 256))+bt160.1)) a1,bt160.2.1,bt160.2.2)))) else (if a1=0 then (none) else (some (Int.tmod bt157.1 a1,bt157.2.1,bt157.2.2))))))=some (r1,r2,r3):=h;clear h
 by_cases c3:a1≤1
 ·rw [if_pos c3] at H
  have c3b0:decide (a1≤1)=true:=decide_eq_true c3;clear c3;simp only [Option.some.injEq,Prod.mk.injEq] at H;obtain ⟨rfl,rfl,rfl⟩:=H
  go_enter Try.func69,Try.ntmps69
  go_wp2;go_ret
  exact ⟨by first|rfl|(simp [errW_none,errW_some] <;> rfl)|(simp [*,errW_none,errW_some] <;> rfl),by repeat (first|(with_reducible first|exact HI0.out|apply I97.alloc|apply I97.drewN|apply I97.drew|apply I97.set_1|apply I97.set_2)|exact HI0.out),by repeat (first|(with_reducible first|exact HB.out|apply bal|apply pdN|apply bdr|refine bst ?_ (I97.ge HI0.out))|exact HB.out),by repeat (first|(with_reducible first|exact HK.out|apply KeepBut.set_|apply kpN|apply kpD|apply kpA)|exact HK.out)⟩
 ·rw [if_neg c3] at H
  have c3b0:decide (a1≤1)=false:=decide_eq_false c3;clear c3;replace H:=Option.bind_eq_some_iff.mp H;obtain ⟨⟨t157,t158,t159⟩,A40,H⟩:=H
  replace H:(if a1 > 200 then ((c6_next.f s0_0 t158 t159).bind fun bt160=>(if a1=0 then (none) else (some (Int.tmod (wrap64 ((wrap64 (t157 * 256))+bt160.1)) a1,bt160.2.1,bt160.2.2)))) else (if a1=0 then (none) else (some (Int.tmod t157 a1,t158,t159))))=some (r1,r2,r3):=H
  have A4:=A0_.mk A40;clear A40
  by_cases c5:a1 > 200
  ·rw [if_pos c5] at H
   have c5b0:decide (200 < a1)=true:=decide_eq_true c5;clear c5;replace H:=Option.bind_eq_some_iff.mp H;obtain ⟨⟨t160,t161,t162⟩,A60,H⟩:=H
   replace H:(if a1=0 then (none) else (some (Int.tmod (wrap64 ((wrap64 (t157 * 256))+t160)) a1,t161,t162)))=some (r1,r2,r3):=H
   have A6:=A0_.mk A60;clear A60
   by_cases c7:a1=0
   ·rw [if_pos c7] at H
    exact absurd H (by simp)
   ·rw [if_neg c7] at H
    have c7b0:(a1==0)=false:=beq_eq_false_iff_ne.mpr c7;have c7b1:(a1 != 0)=true:=bne_iff_ne.mpr c7;simp only [Option.some.injEq,Prod.mk.injEq] at H;obtain ⟨rfl,rfl,rfl⟩:=H
    go_enter Try.func69,Try.ntmps69
    go_wp2_with (first|((with_reducible refine gtC (f:=97) rfl ?_);refine goesL_ (some 9) rfl rfl Try.func97 (by kernel_rfl) rfl #[.pointer (some ⟨g,0,none⟩)] rfl (by (try simp only [List.map_toArray,List.map_cons,List.map_nil]);first|done|rfl|(simp only [List.length_drop,List.length_take];rfl)) ?_;(with_reducible refine (c6_next.calls g s0_0 s0_1 s0_2 t157 t158 t159 w0 _ ?side1 ?side2 A4.out).mono ?_);(case side1=>repeat (first|(with_reducible first|exact HI0.out|apply I97.alloc|apply I97.drewN|apply I97.drew|apply I97.set_1|apply I97.set_2)|exact HI0.out));(case side2=>repeat (first|(with_reducible first|exact HB.out|apply bal|apply pdN|apply bdr|refine bst ?_ (I97.ge HI0.out))|exact HB.out));rintro e w8 ⟨rfl,hi,hb,hk⟩;refine ⟨_,rfl,?_⟩;have n0_:=A0_.mk (KeepBut.trans (by repeat (first|(with_reducible first|exact HK.out|apply KeepBut.set_|apply kpN|apply kpD|apply kpA)|exact HK.out)) hk (.inl rfl));have n1_:=A0_.mk (hb);have n2_:=A0_.mk (hi);clear HK;clear HB;clear HI0;have HK:=n0_;have HB:=n1_;have HI0:=n2_;clear n0_ n1_ n2_;(try clear hb);(try clear hb2);(try clear hk);(try clear hi))|((with_reducible refine gtC (f:=97) rfl ?_);refine goesL_ (some 15) rfl rfl Try.func97 (by kernel_rfl) rfl #[.pointer (some ⟨g,0,none⟩)] rfl (by (try simp only [List.map_toArray,List.map_cons,List.map_nil]);first|done|rfl|(simp only [List.length_drop,List.length_take];rfl)) ?_;(with_reducible refine (c6_next.calls g s0_0 t158 t159 t160 t161 t162 w0 _ ?side1 ?side2 A6.out).mono ?_);(case side1=>repeat (first|(with_reducible first|exact HI0.out|apply I97.alloc|apply I97.drewN|apply I97.drew|apply I97.set_1|apply I97.set_2)|exact HI0.out));(case side2=>repeat (first|(with_reducible first|exact HB.out|apply bal|apply pdN|apply bdr|refine bst ?_ (I97.ge HI0.out))|exact HB.out));rintro e w9 ⟨rfl,hi,hb,hk⟩;refine ⟨_,rfl,?_⟩;have n0_:=A0_.mk (KeepBut.trans (by repeat (first|(with_reducible first|exact HK.out|apply KeepBut.set_|apply kpN|apply kpD|apply kpA)|exact HK.out)) hk (.inl rfl));have n1_:=A0_.mk (hb);have n2_:=A0_.mk (hi);clear HK;clear HB;clear HI0;have HK:=n0_;have HB:=n1_;have HI0:=n2_;clear n0_ n1_ n2_;(try clear hb);(try clear hb2);(try clear hk);(try clear hi)))
    go_ret;exact ⟨by first|rfl|(simp [errW_none,errW_some] <;> rfl)|(simp [*,errW_none,errW_some] <;> rfl),by repeat (first|(with_reducible first|exact HI0.out|apply I97.alloc|apply I97.drewN|apply I97.drew|apply I97.set_1|apply I97.set_2)|exact HI0.out),by repeat (first|(with_reducible first|exact HB.out|apply bal|apply pdN|apply bdr|refine bst ?_ (I97.ge HI0.out))|exact HB.out),by repeat (first|(with_reducible first|exact HK.out|apply KeepBut.set_|apply kpN|apply kpD|apply kpA)|exact HK.out)⟩
  ·rw [if_neg c5] at H
   have c5b0:decide (200 < a1)=false:=decide_eq_false c5;clear c5
   by_cases c10:a1=0
   ·rw [if_pos c10] at H
    exact absurd H (by simp)
   ·rw [if_neg c10] at H
    have c10b0:(a1==0)=false:=beq_eq_false_iff_ne.mpr c10;have c10b1:(a1 != 0)=true:=bne_iff_ne.mpr c10;simp only [Option.some.injEq,Prod.mk.injEq] at H;obtain ⟨rfl,rfl,rfl⟩:=H
    go_enter Try.func69,Try.ntmps69
    go_wp2_with (first|((with_reducible refine gtC (f:=97) rfl ?_);refine goesL_ (some 9) rfl rfl Try.func97 (by kernel_rfl) rfl #[.pointer (some ⟨g,0,none⟩)] rfl (by (try simp only [List.map_toArray,List.map_cons,List.map_nil]);first|done|rfl|(simp only [List.length_drop,List.length_take];rfl)) ?_;(with_reducible refine (c6_next.calls g s0_0 s0_1 s0_2 t157 t158 t159 w0 _ ?side1 ?side2 A4.out).mono ?_);(case side1=>repeat (first|(with_reducible first|exact HI0.out|apply I97.alloc|apply I97.drewN|apply I97.drew|apply I97.set_1|apply I97.set_2)|exact HI0.out));(case side2=>repeat (first|(with_reducible first|exact HB.out|apply bal|apply pdN|apply bdr|refine bst ?_ (I97.ge HI0.out))|exact HB.out));rintro e w11 ⟨rfl,hi,hb,hk⟩;refine ⟨_,rfl,?_⟩;have n0_:=A0_.mk (KeepBut.trans (by repeat (first|(with_reducible first|exact HK.out|apply KeepBut.set_|apply kpN|apply kpD|apply kpA)|exact HK.out)) hk (.inl rfl));have n1_:=A0_.mk (hb);have n2_:=A0_.mk (hi);clear HK;clear HB;clear HI0;have HK:=n0_;have HB:=n1_;have HI0:=n2_;clear n0_ n1_ n2_;(try clear hb);(try clear hb2);(try clear hk);(try clear hi)))
    go_ret;exact ⟨by first|rfl|(simp [errW_none,errW_some] <;> rfl)|(simp [*,errW_none,errW_some] <;> rfl),by repeat (first|(with_reducible first|exact HI0.out|apply I97.alloc|apply I97.drewN|apply I97.drew|apply I97.set_1|apply I97.set_2)|exact HI0.out),by repeat (first|(with_reducible first|exact HB.out|apply bal|apply pdN|apply bdr|refine bst ?_ (I97.ge HI0.out))|exact HB.out),by repeat (first|(with_reducible first|exact HK.out|apply KeepBut.set_|apply kpN|apply kpD|apply kpA)|exact HK.out)⟩


/-! ### c6_word: function 70 -/
def c6_word.l0:Nat → ByteArray → List Int → Int → Int → Option (ByteArray × Int × Int)
 |0,_,_,_,_=>none
 |k+1,x3,x1000,x1001,x1002=>if (x3.size:Int) < 4000 then (if x3.size+x3.size≤9223372036854775807 then (c6_word.l0 k (x3++x3) x1000 x1001 x1002) else (none)) else ((c6_pick.f x1000 x1001 x1002 2).bind fun bt166=>(if 0≤(wrap64 (4000 - bt166.1)) then (if (wrap64 (4000 - bt166.1))≤(x3.size:Int) then (some (x3.extract 0 ((wrap64 (4000 - bt166.1)):Int).toNat,bt166.2.1,bt166.2.2)) else (none)) else (none)))
def c6_word.f (k:Nat) (s0_0:List Int) (s0_1:Int) (s0_2:Int):Option (ByteArray × Int × Int):=(c6_pick.f s0_0 s0_1 s0_2 40).bind fun bt163=>(if bt163.1=0 then (c6_word.l0 k (⟨#[48,49,50,51,52,53,54,55,56,57]⟩:ByteArray) s0_0 bt163.2.1 bt163.2.2) else ((c6_pick.f s0_0 bt163.2.1 bt163.2.2 15).bind fun bt169=>(some (strOfNums (([(wrap64 (97+bt169.1)) % 256]:List Int)),bt169.2.1,bt169.2.2))))
theorem c6_word.mono_l:∀ k,(∀ y0 y1 y2 y3,LeO (c6_word.l0 k y0 y1 y2 y3) (c6_word.l0 (k+1) y0 y1 y2 y3))
 |0=>fun _ _ _ _ r h=>absurd (show (none:Option _)=some r from h) (by simp)
 |k+1=>by
  have ih0:=c6_word.mono_l k
  ·intro y0 y1 y2 y3
   unfold c6_word.l0
   repeat' first
   |(with_reducible exact ih0 _ _ _ _)
   |(with_reducible exact LeO.refl _)
   |(with_reducible exact LeO.none _)
   |(with_reducible refine LeO.ite ?_ ?_)
   |(with_reducible refine LeO.bind ?_ (fun _=>?_))
   |exact ih0 _ _ _ _
   |exact LeO.none _
   |refine LeO.ite ?_ ?_
   |refine LeO.bind ?_ (fun _=>?_)
theorem c6_word.mono:∀ a0 a1 a2 k,LeO (c6_word.f k a0 a1 a2) (c6_word.f (k+1) a0 a1 a2):=by
 intro a0 a1 a2 k
 have ih0:=c6_word.mono_l k;unfold c6_word.f
 repeat' first
   |(with_reducible exact ih0 _ _ _ _)
   |(with_reducible exact LeO.refl _)
   |(with_reducible exact LeO.none _)
   |(with_reducible refine LeO.ite ?_ ?_)
   |(with_reducible refine LeO.bind ?_ (fun _=>?_))
   |exact ih0 _ _ _ _
   |exact LeO.none _
   |refine LeO.ite ?_ ?_
   |refine LeO.bind ?_ (fun _=>?_)
set_option maxHeartbeats 8000000 in
set_option maxRecDepth 100000 in
theorem c6_word.calls (k:Nat) (g:Nat) (s0_0:List Int) (s0_1:Int) (s0_2:Int) (r1:ByteArray) (r2:Int) (r3:Int) (w0 w:World) (hI:I97 w0 w g s0_0 s0_1 s0_2) (hB:Below w0.heap.size w0 w) (h:c6_word.f k s0_0 s0_1 s0_2=some (r1,r2,r3)) :
  Calls Try.prog 70 #[.pointer (some ⟨g,0,none⟩)] w fun e w'=>e=.returned (.string r1)∧I97 w0 w' g s0_0 r2 r3∧Below w0.heap.size w0 w'∧KeepBut w w' g none:=by
 have HI0:=A0_.mk hI;have HK:=A0_.mk (KeepBut.refl w g none);have HL:=A0_.mk hB.size;clear hI;have HW0:=A0_.mk hB.size;have HB:=A0_.mk hB;clear hB;have H:((c6_pick.f s0_0 s0_1 s0_2 40).bind fun bt163=>(if bt163.1=0 then (c6_word.l0 k (⟨#[48,49,50,51,52,53,54,55,56,57]⟩:ByteArray) s0_0 bt163.2.1 bt163.2.2) else ((c6_pick.f s0_0 bt163.2.1 bt163.2.2 15).bind fun bt169=>(some (strOfNums (([(wrap64 (97+bt169.1)) % 256]:List Int)),bt169.2.1,bt169.2.2)))))=some (r1,r2,r3):=h;clear h;replace H:=Option.bind_eq_some_iff.mp H;obtain ⟨⟨t163,t164,t165⟩,A20,H⟩:=H
 replace H:(if t163=0 then (c6_word.l0 k (⟨#[48,49,50,51,52,53,54,55,56,57]⟩:ByteArray) s0_0 t164 t165) else ((c6_pick.f s0_0 t164 t165 15).bind fun bt169=>(some (strOfNums (([(wrap64 (97+bt169.1)) % 256]:List Int)),bt169.2.1,bt169.2.2))))=some (r1,r2,r3):=H
 have A2:=A0_.mk A20;clear A20
 by_cases c3:t163=0
 ·rw [if_pos c3] at H
  have c3b0:(t163==0)=true:=beq_iff_eq.mpr c3;have c3b1:(t163 != 0)=false:=bne_eq_false_iff_eq.mpr c3;clear c3
  have H':=A0_.mk H
  clear H
  go_enter Try.func70,Try.ntmps70
  go_wp2_with (first|((with_reducible refine gtC (f:=69) rfl ?_);refine goesL_ (some 5) rfl rfl Try.func69 (by kernel_rfl) rfl #[.pointer (some ⟨g,0,none⟩),.int .i64 40] rfl (by (try simp only [List.map_toArray,List.map_cons,List.map_nil]);first|done|rfl|(simp only [List.length_drop,List.length_take];rfl)) ?_;(with_reducible refine (c6_pick.calls g s0_0 s0_1 s0_2 40 t163 t164 t165 w0 _ ?side1 ?side2 A2.out).mono ?_);(case side1=>repeat (first|(with_reducible first|exact HI0.out|apply I97.alloc|apply I97.drewN|apply I97.drew|apply I97.set_1|apply I97.set_2)|exact HI0.out));(case side2=>repeat (first|(with_reducible first|exact HB.out|apply bal|apply pdN|apply bdr|refine bst ?_ (I97.ge HI0.out))|exact HB.out));rintro e w4 ⟨rfl,hi,hb,hk⟩;refine ⟨_,rfl,?_⟩;have n0_:=A0_.mk (KeepBut.trans (by repeat (first|(with_reducible first|exact HK.out|apply KeepBut.set_|apply kpN|apply kpD|apply kpA)|exact HK.out)) hk (.inl rfl));have n1_:=A0_.mk (hb);have n2_:=A0_.mk (hi);clear HK;clear HB;clear HI0;have HK:=n0_;have HB:=n1_;have HI0:=n2_;clear n0_ n1_ n2_;(try clear hb);(try clear hb2);(try clear hk);(try clear hi)))
  go_loopg [3] k (fun kq v3 w'=>∃ (x3_1:ByteArray),v3=.string x3_1∧A0_ (c6_word.l0 kq x3_1 s0_0 t164 t165=some (r1,r2,r3))∧A0_ (kq≤k)∧A0_ (I97 w0 w' g s0_0 t164 t165)∧A0_ (KeepBut w w' g none)∧A0_ (Below w0.heap.size w0 w'))
  case atStart=>exact ⟨((⟨#[48,49,50,51,52,53,54,55,56,57]⟩:ByteArray)),(by first|rfl|(simp;done)|(simp [*];done)),H',⟨Nat.le_refl _⟩,⟨by repeat (first|(with_reducible first|exact HI0.out|apply I97.alloc|apply I97.drewN|apply I97.drew|apply I97.set_1|apply I97.set_2)|exact HI0.out)⟩,⟨by repeat (first|(with_reducible first|exact HK.out|apply KeepBut.set_|apply kpN|apply kpD|apply kpA)|exact HK.out)⟩,⟨by repeat (first|(with_reducible first|exact HB.out|apply bal|apply pdN|apply bdr|refine bst ?_ (I97.ge HI0.out))|exact HB.out)⟩⟩
  case round=>
   clear H';(try clear p2);(try clear c3);(try clear c3b0);(try clear c3b1);obtain ⟨x3_1,rfl,HA,HK1,HI0,HK,HB⟩:=hrel
   cases gk with
   |zero=>exact absurd (show (none:Option _)=some _ from HA.out) (by simp)
   |succ k1=>
    have H:=HA.out;clear HA;unfold c6_word.l0 at H
    by_cases c5:(x3_1.size:Int) < 4000
    ·rw [if_pos c5] at H
     have c5b0:decide ((x3_1.size:Int) < 4000)=true:=decide_eq_true c5;have c5b1:decide (x3_1.size < 4000)=true:=decide_eq_true (by omega);clear c5
     by_cases c6:x3_1.size+x3_1.size≤9223372036854775807
     ·rw [if_pos c6] at H
      have c6b0:=eq_true c6;have c6b1:decide (x3_1.size+x3_1.size≤9223372036854775807)=true:=decide_eq_true c6
      try have c6b2:(9223372036854775807 < x3_1.size+x3_1.size)=False:=eq_false (Nat.not_lt.2 c6)
      have H':=A0_.mk H
      clear H;go_wp2
      go_roundg k1
      case measure=>have:=HK1.out;omega
      case rel=>exact ⟨(x3_1++x3_1),(by first|rfl|(simp;done)|(simp [*];done)),H',⟨by have:=HK1.out;omega⟩,⟨by repeat (first|(with_reducible first|exact HI0.out|apply I97.alloc|apply I97.drewN|apply I97.drew|apply I97.set_1|apply I97.set_2)|exact HI0.out)⟩,⟨by repeat (first|(with_reducible first|exact HK.out|apply KeepBut.set_|apply kpN|apply kpD|apply kpA)|exact HK.out)⟩,⟨by repeat (first|(with_reducible first|exact HB.out|apply bal|apply pdN|apply bdr|refine bst ?_ (I97.ge HI0.out))|exact HB.out)⟩⟩
     ·rw [if_neg c6] at H
      exact absurd H (by simp)
    ·rw [if_neg c5] at H
     have c5b0:decide ((x3_1.size:Int) < 4000)=false:=decide_eq_false c5;have c5b1:decide (x3_1.size < 4000)=false:=decide_eq_false (by omega);clear c5;replace H:=Option.bind_eq_some_iff.mp H;obtain ⟨⟨t166,t167,t168⟩,A70,H⟩:=H
     replace H:(if 0≤(wrap64 (4000 - t166)) then (if (wrap64 (4000 - t166))≤(x3_1.size:Int) then (some (x3_1.extract 0 ((wrap64 (4000 - t166)):Int).toNat,t167,t168)) else (none)) else (none))=some (r1,r2,r3):=H
     have A7:=A0_.mk A70;clear A70;obtain ⟨ji8,hji8⟩:∃ j_:Int,(wrap64 (4000 - t166))=j_:=⟨_,rfl⟩
     replace H:(if 0≤(ji8) then (if (ji8)≤(x3_1.size:Int) then (some (x3_1.extract 0 ((ji8):Int).toNat,t167,t168)) else (none)) else (none))=some (r1,r2,r3):=by first|(rw [hji8] at H;exact H)|(simp only [hji8] at H ⊢;exact H)
     (try rw [hji8] at A7)
     have hji8w:(IntKind.i64.wrap (4000 - t166))=ji8:=(i64_w _).trans hji8
     by_cases c9:0≤(ji8)
     ·rw [if_pos c9] at H
      have c9b0:=eq_true c9;have c9b1:decide (0≤(ji8))=true:=decide_eq_true c9;clear c9
      by_cases c10:(ji8)≤(x3_1.size:Int)
      ·rw [if_pos c10] at H
       have c10b0:=eq_true c10;have c10b1:decide ((ji8)≤(x3_1.size:Int))=true:=decide_eq_true c10;clear c10;simp only [Option.some.injEq,Prod.mk.injEq] at H;obtain ⟨rfl,rfl,rfl⟩:=H
       go_wp2_with (first|((with_reducible refine gtC (f:=69) rfl ?_);refine goesL_ (some 15) rfl rfl Try.func69 (by kernel_rfl) rfl #[.pointer (some ⟨g,0,none⟩),.int .i64 2] rfl (by (try simp only [List.map_toArray,List.map_cons,List.map_nil]);first|done|rfl|(simp only [List.length_drop,List.length_take];rfl)) ?_;(with_reducible refine (c6_pick.calls g s0_0 t164 t165 2 t166 t167 t168 w0 _ ?side1 ?side2 A7.out).mono ?_);(case side1=>repeat (first|(with_reducible first|exact HI0.out|apply I97.alloc|apply I97.drewN|apply I97.drew|apply I97.set_1|apply I97.set_2)|exact HI0.out));(case side2=>repeat (first|(with_reducible first|exact HB.out|apply bal|apply pdN|apply bdr|refine bst ?_ (I97.ge HI0.out))|exact HB.out));rintro e w11 ⟨rfl,hi,hb,hk⟩;refine ⟨_,rfl,?_⟩;have n0_:=A0_.mk (KeepBut.trans (by repeat (first|(with_reducible first|exact HK.out|apply KeepBut.set_|apply kpN|apply kpD|apply kpA)|exact HK.out)) hk (.inl rfl));have n1_:=A0_.mk (hb);have n2_:=A0_.mk (hi);clear HK;clear HB;clear HI0;have HK:=n0_;have HB:=n1_;have HI0:=n2_;clear n0_ n1_ n2_;(try clear hb);(try clear hb2);(try clear hk);(try clear hi)))
       go_ret;exact ⟨by first|rfl|(simp [errW_none,errW_some] <;> rfl)|(simp only [← hji8];first|rfl|(simp [errW_none,errW_some] <;> rfl))|(simp [*,errW_none,errW_some] <;> rfl),by repeat (first|(with_reducible first|exact HI0.out|apply I97.alloc|apply I97.drewN|apply I97.drew|apply I97.set_1|apply I97.set_2)|exact HI0.out),by repeat (first|(with_reducible first|exact HB.out|apply bal|apply pdN|apply bdr|refine bst ?_ (I97.ge HI0.out))|exact HB.out),by repeat (first|(with_reducible first|exact HK.out|apply KeepBut.set_|apply kpN|apply kpD|apply kpA)|exact HK.out)⟩
      ·rw [if_neg c10] at H
       exact absurd H (by simp)
     ·rw [if_neg c9] at H
      exact absurd H (by simp)
 ·rw [if_neg c3] at H
  have c3b0:(t163==0)=false:=beq_eq_false_iff_ne.mpr c3;have c3b1:(t163 != 0)=true:=bne_iff_ne.mpr c3;replace H:=Option.bind_eq_some_iff.mp H;obtain ⟨⟨t169,t170,t171⟩,A120,H⟩:=H
  replace H:(some (strOfNums (([(wrap64 (97+t169)) % 256]:List Int)),t170,t171))=some (r1,r2,r3):=H
  have A12:=A0_.mk A120;clear A120;obtain ⟨y172,hy172⟩:∃ y_:List Int,y_=(([(wrap64 (97+t169)) % 256]:List Int)):=⟨_,rfl⟩
  replace H:(some (strOfNums y172,t170,t171))=some (r1,r2,r3):=by first|(rw [hy172];with_reducible exact H)|(have H2_:=(Option.bind_some _ _).symm.trans H;rw [hy172];with_reducible exact H2_)|(have H2_:=(Option.bind_some _ _).symm.trans H;with_reducible exact H2_)|with_reducible exact H|(rw [hy172];exact H)|exact H
  have Ny172:=A0_.mk hy172;clear hy172;simp only [Option.some.injEq,Prod.mk.injEq] at H;obtain ⟨rfl,rfl,rfl⟩:=H
  go_enter Try.func70,Try.ntmps70
  go_wp2_with (first|((with_reducible refine gtC (f:=69) rfl ?_);refine goesL_ (some 5) rfl rfl Try.func69 (by kernel_rfl) rfl #[.pointer (some ⟨g,0,none⟩),.int .i64 40] rfl (by (try simp only [List.map_toArray,List.map_cons,List.map_nil]);first|done|rfl|(simp only [List.length_drop,List.length_take];rfl)) ?_;(with_reducible refine (c6_pick.calls g s0_0 s0_1 s0_2 40 t163 t164 t165 w0 _ ?side1 ?side2 A2.out).mono ?_);(case side1=>repeat (first|(with_reducible first|exact HI0.out|apply I97.alloc|apply I97.drewN|apply I97.drew|apply I97.set_1|apply I97.set_2)|exact HI0.out));(case side2=>repeat (first|(with_reducible first|exact HB.out|apply bal|apply pdN|apply bdr|refine bst ?_ (I97.ge HI0.out))|exact HB.out));rintro e w13 ⟨rfl,hi,hb,hk⟩;refine ⟨_,rfl,?_⟩;have n0_:=A0_.mk (KeepBut.trans (by repeat (first|(with_reducible first|exact HK.out|apply KeepBut.set_|apply kpN|apply kpD|apply kpA)|exact HK.out)) hk (.inl rfl));have n1_:=A0_.mk (hb);have n2_:=A0_.mk (hi);clear HK;clear HB;clear HI0;have HK:=n0_;have HB:=n1_;have HI0:=n2_;clear n0_ n1_ n2_;(try clear hb);(try clear hb2);(try clear hk);(try clear hi))|((with_reducible refine gtC (f:=69) rfl ?_);refine goesL_ (some 19) rfl rfl Try.func69 (by kernel_rfl) rfl #[.pointer (some ⟨g,0,none⟩),.int .i64 15] rfl (by (try simp only [List.map_toArray,List.map_cons,List.map_nil]);first|done|rfl|(simp only [List.length_drop,List.length_take];rfl)) ?_;(with_reducible refine (c6_pick.calls g s0_0 t164 t165 15 t169 t170 t171 w0 _ ?side1 ?side2 A12.out).mono ?_);(case side1=>repeat (first|(with_reducible first|exact HI0.out|apply I97.alloc|apply I97.drewN|apply I97.drew|apply I97.set_1|apply I97.set_2)|exact HI0.out));(case side2=>repeat (first|(with_reducible first|exact HB.out|apply bal|apply pdN|apply bdr|refine bst ?_ (I97.ge HI0.out))|exact HB.out));rintro e w14 ⟨rfl,hi,hb,hk⟩;refine ⟨_,rfl,?_⟩;have n0_:=A0_.mk (KeepBut.trans (by repeat (first|(with_reducible first|exact HK.out|apply KeepBut.set_|apply kpN|apply kpD|apply kpA)|exact HK.out)) hk (.inl rfl));have n1_:=A0_.mk (hb);have n2_:=A0_.mk (hi);clear HK;clear HB;clear HI0;have HK:=n0_;have HB:=n1_;have HI0:=n2_;clear n0_ n1_ n2_;(try clear hb);(try clear hb2);(try clear hk);(try clear hi))|((with_reducible refine gtD (N:=22) rfl ?_);refine Kd.R_lit (Kd.int .u8) _ 5 ?hg (N:=22) ?hd (xs:=([(wrap64 (97+t169)) % 256]:List Int)) (inner:=[.int .u8 ((wrap64 (97+t169)) % 256)]) (ok:=fun _=>True) (okp:=fun _=>True) ?hr ?hp (fun _ hk=>hk) trivial (Below.refl _ _) (Nat.le_refl _) (by simp) ?_;(case hd=>rfl);(case hg=>rfl);(case hr=>first|(go_simp;done)|(go_simp;rfl));(case hp=>exact (Reps.one (show Kd.M (Kd.int .u8) _ _ _ ((wrap64 (97+t169)) % 256) [.int .u8 ((wrap64 (97+t169)) % 256)] from rfl) (Reps.none _ _)));intro v173 w15 ho16 hb hg_ hnew_;clear hg_ hnew_;(first|rw [← Ny172.out] at ho16|(simp only [Int.reduceToNat] at ho16;rw [← Ny172.out] at ho16));have n0_:=A0_.mk (Kd.R_lower ho16 (kpS (w:=w) (g:=g) (row:=none) (by repeat (first|(with_reducible first|exact HK.out|apply KeepBut.set_|apply kpN|apply kpD|apply kpA)|exact HK.out))));have n1_:=A0_.mk (I97.below (by repeat (first|(with_reducible first|exact HI0.out|apply I97.alloc|apply I97.drewN|apply I97.drew|apply I97.set_1|apply I97.set_2)|exact HI0.out)) hb);have n2_:=A0_.mk (KeepBut.trans (by repeat (first|(with_reducible first|exact HK.out|apply KeepBut.set_|apply kpN|apply kpD|apply kpA)|exact HK.out)) (KeepBut.of_below hb g none) (.inl rfl));have n3_:=A0_.mk (bsp (by repeat (first|(with_reducible first|exact HB.out|apply bal|apply pdN|apply bdr|refine bst ?_ (I97.ge HI0.out))|exact HB.out)) hb);clear HI0;clear HK;clear HB;have HO174:=n0_;have HI0:=n1_;have HK:=n2_;have HB:=n3_;clear n0_ n1_ n2_ n3_;clear hb ho16;have hcv17:=own_string (P:=Try.prog) Try.underlying60 Try.underlying5 Try.underlying9 (Kd.own_of_R HO174.out)))
  go_ret;exact ⟨by first|rfl|(simp [errW_none,errW_some] <;> rfl)|(simp [*,errW_none,errW_some] <;> rfl),by repeat (first|(with_reducible first|exact HI0.out|apply I97.alloc|apply I97.drewN|apply I97.drew|apply I97.set_1|apply I97.set_2)|exact HI0.out),by repeat (first|(with_reducible first|exact HB.out|apply bal|apply pdN|apply bdr|refine bst ?_ (I97.ge HI0.out))|exact HB.out),by repeat (first|(with_reducible first|exact HK.out|apply KeepBut.set_|apply kpN|apply kpD|apply kpA)|exact HK.out)⟩


/-! ### spec_l6long: function 71 -/
def spec_l6long.l0:Nat → ByteArray → Option (ByteArray)
 |0,_=>none
 |k+1,x1=>if (x1.size:Int)≤4000 then (if x1.size+x1.size≤9223372036854775807 then (spec_l6long.l0 k (x1++x1)) else (none)) else (some x1)
def spec_l6long.f (k:Nat) :Option (ByteArray):=spec_l6long.l0 k (⟨#[120]⟩:ByteArray)
theorem spec_l6long.mono_l:∀ k,(∀ y0,LeO (spec_l6long.l0 k y0) (spec_l6long.l0 (k+1) y0))
 |0=>fun _ r h=>by simp [spec_l6long.l0] at h
 |k+1=>by
  have ih0:=spec_l6long.mono_l k
  ·intro y0
   unfold spec_l6long.l0
   repeat' first
   |(with_reducible exact ih0 _)
   |(with_reducible exact LeO.refl _)
   |(with_reducible exact LeO.none _)
   |(with_reducible refine LeO.ite ?_ ?_)
   |(with_reducible refine LeO.bind ?_ (fun _=>?_))
   |exact ih0 _
   |exact LeO.none _
   |refine LeO.ite ?_ ?_
   |refine LeO.bind ?_ (fun _=>?_)
theorem spec_l6long.mono:∀ k,LeO (spec_l6long.f k ) (spec_l6long.f (k+1) ):=by
 intro  k
 have ih0:=spec_l6long.mono_l k;unfold spec_l6long.f
 repeat' first
   |(with_reducible exact ih0 _)
   |(with_reducible exact LeO.refl _)
   |(with_reducible exact LeO.none _)
   |(with_reducible refine LeO.ite ?_ ?_)
   |(with_reducible refine LeO.bind ?_ (fun _=>?_))
   |exact ih0 _
   |exact LeO.none _
   |refine LeO.ite ?_ ?_
   |refine LeO.bind ?_ (fun _=>?_)
set_option maxHeartbeats 8000000 in
set_option maxRecDepth 100000 in
theorem spec_l6long.calls (k:Nat)  (r:ByteArray) (w:World) (h:spec_l6long.f k =some r) :
  Calls Try.prog 71 #[] w fun e w'=>e=.returned (.string r)∧Drawn0 w w':=by
 have H:(spec_l6long.l0 k (⟨#[120]⟩:ByteArray))=some r:=h;clear h
 have H':=A0_.mk H
 clear H
 go_enter Try.func71,Try.ntmps71
 go_wp2
 go_loopg [1] k (fun kq v1 w'=>∃ (x1_1:ByteArray),v1=.string x1_1∧A0_ (spec_l6long.l0 kq x1_1=some r)∧A0_ (kq≤k)∧Drawn0 w w')
 case atStart=>exact ⟨((⟨#[120]⟩:ByteArray)),(by first|rfl|(simp;done)|(simp [*];done)),H',⟨Nat.le_refl _⟩,by repeat (first|exact Drawn0.refl _|apply Drawn0.step)⟩
 case round=>
  clear H';obtain ⟨x1_1,rfl,HA,HK1,⟨m1,rfl⟩⟩:=hrel
  cases gk with
  |zero=>exact absurd HA.out (by simp [spec_l6long.l0])
  |succ k1=>
   have H:=HA.out;clear HA;simp only [spec_l6long.l0] at H
   by_cases c1:(x1_1.size:Int)≤4000
   ·rw [if_pos c1] at H
    have c1b0:decide ((x1_1.size:Int)≤4000)=true:=decide_eq_true c1;have c1b1:decide (x1_1.size≤4000)=true:=decide_eq_true (by omega);clear c1
    by_cases c2:x1_1.size+x1_1.size≤9223372036854775807
    ·rw [if_pos c2] at H
     have c2b0:=eq_true c2;have c2b1:decide (x1_1.size+x1_1.size≤9223372036854775807)=true:=decide_eq_true c2
     try have c2b2:(9223372036854775807 < x1_1.size+x1_1.size)=False:=eq_false (Nat.not_lt.2 c2)
     have H':=A0_.mk H
     clear H;go_wp2
     go_roundg k1
     case measure=>have:=HK1.out;omega
     case rel=>exact ⟨(x1_1++x1_1),(by first|rfl|(simp;done)|(simp [*];done)),H',⟨by have:=HK1.out;omega⟩,by repeat (first|exact Drawn0.refl _|apply Drawn0.step)⟩
    ·rw [if_neg c2] at H
     exact absurd H (by simp)
   ·rw [if_neg c1] at H
    have c1b0:decide ((x1_1.size:Int)≤4000)=false:=decide_eq_false c1;have c1b1:decide (x1_1.size≤4000)=false:=decide_eq_false (by omega);clear c1
    obtain rfl:=Option.some.inj H
    go_wp2;go_ret
    exact ⟨by first|rfl|(simp;done)|(simp [*];done),by repeat (first|exact Drawn0.refl _|apply Drawn0.step)⟩

end Go.Proofs.Ytclploookcjcbaa.PFr
