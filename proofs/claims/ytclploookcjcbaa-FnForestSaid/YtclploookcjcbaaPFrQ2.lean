/- Proved: each Go function that is named below comes to the answers of the Lean function printed for it. Printed by a changed copy of the kit's print program (wip/mkpk.py), for this claim. -/
import Derived.Test.YtclploookcjcbaaPFrx0
import Derived.Test.YtclploookcjcbaaPFrW
namespace Go.Proofs.Ytclploookcjcbaa.PFr
open Go.RowKit Go.Proofs.YtclploookcjcbaaW.PrintWords Go.Proofs.YtclploookcjcbaaW.PrintLast Go.Proofs.YtclploookcjcbaaW.PrintMore
attribute [local go_sem] max2_int min2_int max_two min_two max_three min_three max_four min_four   -- for this text's walks alone
set_option linter.unusedVariables false
set_option linter.unusedSimpArgs false

/-! ### c6_spoilforest: function 96 -/
def c6_spoilforest.j0:Nat → Bool → List Int → Int → Int → List (S75) → Option ((List (S75)) × Int × Int)
 |0,_,_,_,_,_=>none
 |k+1,x15,x1000,x1001,x1002,x133000=>if x15=true then (some (([]:List (S75)),x1001,x1002)) else ((c6_pick.f x1000 x1001 x1002 (x133000.length:Int)).bind fun bt136=>((c6_pick.f x1000 bt136.2.1 bt136.2.2 4).bind fun bt139=>(if bt139.1=0 then ((c6_pick.f x1000 bt139.2.1 bt139.2.2 (wrap64 ((x133000.length:Int)+2))).bind fun bt142=>(if 0≤bt136.1 then (if bt136.1 < (x133000.length:Int) then (some ((x133000.set (bt136.1:Int).toNat (⟨wrap64 (bt142.1 - 1),(rT x133000 bt136.1).f1,(rT x133000 bt136.1).f2⟩:S75)),bt142.2.1,bt142.2.2)) else (none)) else (none))) else (if bt139.1=1 then ((c6_word.f k x1000 bt139.2.1 bt139.2.2).bind fun bt146=>(if 0≤bt136.1 then (if bt136.1 < (x133000.length:Int) then (some ((x133000.set (bt136.1:Int).toNat (⟨(rT x133000 bt136.1).f0,bt146.1,(rT x133000 bt136.1).f2⟩:S75)),bt146.2.1,bt146.2.2)) else (none)) else (none))) else (if bt139.1=2 then (if 0≤bt136.1 then (if bt136.1 < (x133000.length:Int) then ((c6_pick.f x1000 bt139.2.1 bt139.2.2 3).bind fun bt151=>(some ((x133000.set (bt136.1:Int).toNat (⟨(rT x133000 bt136.1).f0,(rT x133000 bt136.1).f1,wrap64 (((rT x133000 bt136.1).f2)+(wrap64 (bt151.1 - 1)))⟩:S75)),bt151.2.1,bt151.2.2))) else (none)) else (none)) else (if 0≤bt136.1 then (if bt136.1 < (x133000.length:Int) then (if x133000.length < 4398046511104 then (some ((x133000++[(⟨(rT x133000 bt136.1).f0,(rT x133000 bt136.1).f1,(rT x133000 bt136.1).f2⟩:S75)]),bt139.2.1,bt139.2.2)) else (none)) else (none)) else (none)))))))
def c6_spoilforest.f (k:Nat) (s0_0:List Int) (s0_1:Int) (s0_2:Int) (t129:List (S75)):Option ((List (S75)) × Int × Int):=((c6_pick.f s0_0 s0_1 s0_2 8).bind fun bt133=>(if bt133.1=0 then (c6_spoilforest.j0 k true s0_0 bt133.2.1 bt133.2.2 t129) else (c6_spoilforest.j0 k ((t129.length:Int)==0) s0_0 bt133.2.1 bt133.2.2 t129)))
theorem c6_spoilforest.mono_l:∀ k,(∀ y0 y1 y2 y3 y4,LeO (c6_spoilforest.j0 k y0 y1 y2 y3 y4) (c6_spoilforest.j0 (k+1) y0 y1 y2 y3 y4))
 |0=>fun _ _ _ _ _ r h=>by simp [c6_spoilforest.j0] at h
 |k+1=>by
  have ih0:=c6_spoilforest.mono_l k
  ·intro y0 y1 y2 y3 y4
   unfold c6_spoilforest.j0
   repeat' first
   |(with_reducible exact ih0 _ _ _ _ _)
   |(with_reducible exact spec_l2copy.mono _ _)
   |(with_reducible exact c6_word.mono _ _ _ _)
   |(with_reducible exact LeO.refl _)
   |(with_reducible exact LeO.none _)
   |(with_reducible refine LeO.ite ?_ ?_)
   |(with_reducible refine LeO.bind ?_ (fun _=>?_))
   |exact ih0 _ _ _ _ _
   |exact spec_l2copy.mono _ _
   |exact c6_word.mono _ _ _ _
   |exact LeO.none _
   |refine LeO.ite ?_ ?_
   |refine LeO.bind ?_ (fun _=>?_)
theorem c6_spoilforest.mono:∀ a0 a1 a2 a3 k,LeO (c6_spoilforest.f k a0 a1 a2 a3) (c6_spoilforest.f (k+1) a0 a1 a2 a3):=by
 intro a0 a1 a2 a3 k
 have ih0:=c6_spoilforest.mono_l k;unfold c6_spoilforest.f
 repeat' first
   |(with_reducible exact ih0 _ _ _ _ _)
   |(with_reducible exact spec_l2copy.mono _ _)
   |(with_reducible exact c6_word.mono _ _ _ _)
   |(with_reducible exact LeO.refl _)
   |(with_reducible exact LeO.none _)
   |(with_reducible refine LeO.ite ?_ ?_)
   |(with_reducible refine LeO.bind ?_ (fun _=>?_))
   |exact ih0 _ _ _ _ _
   |exact spec_l2copy.mono _ _
   |exact c6_word.mono _ _ _ _
   |exact LeO.none _
   |refine LeO.ite ?_ ?_
   |refine LeO.bind ?_ (fun _=>?_)
def c6_spoilforest.T4:Bool × List (List Nat × List Nat):=(true,[([],[]),([],[]),([1],[1]),([2],[2]),([3],[3]),([],[]),([5],[5]),([6],[6]),([7],[7]),([],[]),([8,9],[8,9]),([10],[10]),([11],[11]),([4,12],[4,12]),([0,0,1,2,3,4,5,6,7,8,9,10,11,12,13],[0]),([14,0,1,2,3,4,5,6,7,8,9,10,11,12,13],[14]),([15,13,13,0,1,2,3,4,5,6,7,8,9,10,11,12,13],[13,15])])
def c6_spoilforest.B4:List Nat:=[0,0,2,6,14,0,32,96,224,0,992,2016,4064,8190,16383,32767,65535]
theorem c6_spoilforest.tab4:rtab .any (opsOf Try.f96 4)=c6_spoilforest.T4:=by kernel_rfl
theorem c6_spoilforest.bits4:waitsOk c6_spoilforest.T4.2 c6_spoilforest.B4=true:=by kernel_rfl
def c6_spoilforest.T6:Bool × List (List Nat × List Nat):=(true,[([],[]),([0],[0]),([1],[1]),([2],[2]),([],[]),([],[]),([],[]),([6],[6]),([7],[7]),([8],[8]),([9],[9]),([10],[10]),([5,11],[5,11]),([12],[12]),([3,4,0,1,2,3,4,5,6,7,8,9,10,11,12,13],[3,4]),([14,0,1,2,3,4,5,6,7,8,9,10,11,12,13],[14]),([15,13,12,0,1,2,3,4,5,6,7,8,9,10,11,12,13],[13,15])])
def c6_spoilforest.B6:List Nat:=[0,1,3,7,0,0,0,64,192,448,960,1984,4064,8160,16383,32767,65535]
theorem c6_spoilforest.tab6:rtab .any (opsOf Try.f96 6)=c6_spoilforest.T6:=by kernel_rfl
theorem c6_spoilforest.bits6:waitsOk c6_spoilforest.T6.2 c6_spoilforest.B6=true:=by kernel_rfl
def c6_spoilforest.T8:Bool × List (List Nat × List Nat):=(true,[([],[]),([0],[0]),([1],[1]),([2],[2]),([],[]),([],[]),([5],[5]),([3,4,0,1,2,3,4,5,6],[3,4]),([7,0,1,2,3,4,5,6],[7]),([8,6,6,0,1,2,3,4,5,6],[6,8])])
def c6_spoilforest.B8:List Nat:=[0,1,3,7,0,0,32,127,255,511]
theorem c6_spoilforest.tab8:rtab .any (opsOf Try.f96 8)=c6_spoilforest.T8:=by kernel_rfl
theorem c6_spoilforest.bits8:waitsOk c6_spoilforest.T8.2 c6_spoilforest.B8=true:=by kernel_rfl
def c6_spoilforest.T10:Bool × List (List Nat × List Nat):=(true,[([],[]),([0],[0]),([1],[1]),([2],[2]),([],[]),([3,4],[3,4]),([5],[5]),([6],[6]),([],[]),([8],[8]),([9],[9]),([7,10],[7,10]),([3,4,0,1,2,3,4,5,6,7,8,9,10,11],[3,4]),([12,0,1,2,3,4,5,6,7,8,9,10,11],[12]),([13,11,9,0,1,2,3,4,5,6,7,8,9,10,11],[11,13])])
def c6_spoilforest.B10:List Nat:=[0,1,3,7,0,31,63,127,0,256,768,2047,4095,8191,16383]
theorem c6_spoilforest.tab10:rtab .any (opsOf Try.f96 10)=c6_spoilforest.T10:=by kernel_rfl
theorem c6_spoilforest.bits10:waitsOk c6_spoilforest.T10.2 c6_spoilforest.B10=true:=by kernel_rfl
set_option maxHeartbeats 8000000 in
set_option maxRecDepth 100000 in
theorem c6_spoilforest.calls (k:Nat) (g gb128 gb132:Nat) (s0_0:List Int) (s0_1:Int) (s0_2:Int) (A1_0:Option Addr) (c1_0:Nat) (l1_0:List (S75)) (Ao10:Option Addr) (co10:Nat) (t129:List (S75)) (r1:List (S75)) (r2:Int) (r3:Int) (w0 wk w:World) (hI:I97 w0 w g s0_0 s0_1 s0_2) (hB:Below w0.heap.size w0 w) (hK:KeepBut wk w g none) (hL:w0.heap.size≤wk.heap.size) (hgw:wk.heap.size≤gb132) (h128:w.heap[gb128]? = some (.cells #[.slice A1_0 l1_0.length c1_0] 36 (0,0))) (h132:w.heap[gb132]? = some (.cells #[.slice Ao10 t129.length co10] 36 (0,0))) (hne:gb128≠gb132) (hng:g≠gb128) (hng2:g≠gb132) (hO:Kd.R k75 75 w wk.heap.size (fun _=>True) (.slice Ao10 t129.length co10) t129) (h:c6_spoilforest.f k s0_0 s0_1 s0_2 t129=some (r1,r2,r3)) :
  Calls Try.prog 96 #[.pointer (some ⟨g,0,none⟩),.pointer (some ⟨gb132,0,none⟩)] w fun e w'=>e=.returned (.tuple #[])∧∃ v0_:Value,w'.heap[gb132]? = some (.cells #[v0_] 36 (0,0))∧w'.heap[gb128]? = some (.cells #[.slice A1_0 l1_0.length c1_0] 36 (0,0))∧Kd.R k75 75 w' wk.heap.size (fun _=>True) v0_ r1∧I97 w0 w' g s0_0 r2 r3∧Below w0.heap.size w0 w'∧KeepBut wk w' g none:=by
 have hu36:=Try.underlying36;have hu75:=Try.underlying75;have HI0:=A0_.mk hI;have HK:=A0_.mk hK;have HL:=A0_.mk hL;have HW0:=A0_.mk hL;have HB:=A0_.mk hB;have BK128:=A0_.mk h128;have BK132:=A0_.mk h132;have GW132:=A0_.mk hgw;have GE132:=A0_.mk (Nat.le_trans hL hgw);have NB128_132:=A0_.mk hne;have NB132_128:=A0_.mk (Ne.symm hne);have NB0_128:=A0_.mk hng;have NB128_0:=A0_.mk (Ne.symm hng);have NB0_132:=A0_.mk hng2;have NB132_0:=A0_.mk (Ne.symm hng2);have HO131:=A0_.mk hO;clear hI hK hL hB h128 h132 hgw hne hng hng2 hO;have H:((c6_pick.f s0_0 s0_1 s0_2 8).bind fun bt133=>(if bt133.1=0 then (c6_spoilforest.j0 k true s0_0 bt133.2.1 bt133.2.2 t129) else (c6_spoilforest.j0 k ((t129.length:Int)==0) s0_0 bt133.2.1 bt133.2.2 t129)))=some (r1,r2,r3):=h;clear h;have HC4:=A0_.mk H;clear H
 go_enter Try.func96,Try.ntmps96
 have hnbA:=NB132_0.out;have hncA:=NB0_132.out;have hczA_0:w.cell? ⟨gb132,0,none⟩=some (.slice Ao10 t129.length co10):=(bkC BK132.out 0).trans rfl
 have hfzA_0:=bkF BK132.out 0
 go_upto_region 0 with (fail)
 (try simp only [Act.put,List.setIfInBounds_toArray,List.set_cons_zero,List.set_cons_succ])
 go_cut [15] (fun v15 wc=>∃ (kq:Nat) (x15_3:Bool) (x1001_3:Int) (x1002_3:Int),v15=.bool x15_3∧A0_ (c6_spoilforest.j0 kq x15_3 s0_0 x1001_3 x1002_3 t129=some (r1,r2,r3))∧A0_ (kq≤k)∧A0_ (Kd.R k75 75 wc wk.heap.size (fun _=>True) (.slice Ao10 t129.length co10) t129)∧A0_ (wc.heap[gb128]? = some (.cells #[(.slice A1_0 l1_0.length c1_0)] 36 (0,0)))∧A0_ (wc.heap[gb132]? = some (.cells #[(.slice Ao10 t129.length co10)] 36 (0,0)))∧A0_ (I97 w0 wc g s0_0 x1001_3 x1002_3)∧A0_ (KeepBut wk wc g none)∧A0_ (Below w0.heap.size w0 wc))
 case first=>
  have H:=HC4.out;clear HC4;replace H:=Option.bind_eq_some_iff.mp H;obtain ⟨⟨t133,t134,t135⟩,A140,H⟩:=H
  replace H:(if t133=0 then (c6_spoilforest.j0 k true s0_0 t134 t135 t129) else (c6_spoilforest.j0 k ((t129.length:Int)==0) s0_0 t134 t135 t129))=some (r1,r2,r3):=H
  have A14:=A0_.mk A140;clear A140
  by_cases c15:t133=0
  ·rw [if_pos c15] at H
   have c15b0:(t133==0)=true:=beq_iff_eq.mpr c15;have c15b1:(t133 != 0)=false:=bne_eq_false_iff_eq.mpr c15;clear c15
   (first|rw [c15b0]|(simp only [i64_w,i32_w];rw [c15b0])|skip)
   have H':=A0_.mk H
   clear H
   go_wp2_with (first|((with_reducible refine gtC (f:=69) rfl ?_);refine goesL_ (some 6) rfl rfl Try.func69 (by kernel_rfl) rfl #[.pointer (some ⟨g,0,none⟩),.int .i64 8] rfl (by (try simp only [List.map_toArray,List.map_cons,List.map_nil]);first|done|rfl|(simp only [List.length_drop,List.length_take];rfl)) ?_;(with_reducible refine (c6_pick.calls g s0_0 s0_1 s0_2 8 t133 t134 t135 w0 _ ?side1 ?side2 A14.out).mono ?_);(case side1=>repeat (first|(with_reducible first|exact HI0.out|apply I97.alloc|apply I97.drewN|apply I97.drew|apply I97.set_1|apply I97.set_2|refine I97.far ?_ NB0_128.out _|refine I97.far ?_ NB0_132.out _)|exact HI0.out));(case side2=>repeat (first|(with_reducible first|exact HB.out|apply bal|apply pdN|apply bdr|refine bst ?_ (I97.ge HI0.out)|refine bst ?_ GE128.out|refine bst ?_ GE132.out)|exact HB.out));rintro e w16 ⟨rfl,hi,hb,hk⟩;refine ⟨_,rfl,?_⟩;have n0_:=A0_.mk (KeepBut.blk hk (g':=gb128) (o:=.cells #[.slice A1_0 l1_0.length c1_0] 36 (0,0)) (by (with_reducible repeat first|apply bkN|apply bkD|apply bkA);exact BK128.out) NB128_0.out (by simp));have n1_:=A0_.mk (Kd.R_mono (Kd.R_keep (I97.apart (show I97 w0 _ g s0_0 s0_1 s0_2 from by repeat (first|(with_reducible first|exact HI0.out|apply I97.alloc|apply I97.drewN|apply I97.drew|apply I97.set_1|apply I97.set_2|refine I97.far ?_ NB0_128.out _|refine I97.far ?_ NB0_132.out _)|exact HI0.out)) (by (with_reducible repeat (first|apply Kd.R_alloc|apply Kd.R_drewN|apply Kd.R_drew));exact HO131.out) (by decide)) hk (fun _ h=>h.2)) (fun _ h=>h.1));have n2_:=A0_.mk (KeepBut.blk hk (g':=gb132) (o:=.cells #[.slice Ao10 t129.length co10] 36 (0,0)) (by (with_reducible repeat first|apply bkN|apply bkD|apply bkA);exact BK132.out) NB132_0.out (by simp));have n3_:=A0_.mk (KeepBut.trans (by repeat (first|(with_reducible first|exact HK.out|apply KeepBut.set_|apply kpN|apply kpD|apply kpA|refine kpF ?_ GW128.out _|refine kpF ?_ GW132.out _)|exact HK.out)) hk (.inl rfl));have n4_:=A0_.mk (hb);have n5_:=A0_.mk (hi);clear BK128;clear HO131;clear BK132;clear HK;clear HB;clear HI0;have BK128:=n0_;have HO131:=n1_;have BK132:=n2_;have HK:=n3_;have HB:=n4_;have HI0:=n5_;clear n0_ n1_ n2_ n3_ n4_ n5_;(try clear hb);(try clear hb2);(try clear hk);(try clear hi)))
   go_meet
   case rel=>exact ⟨_,(true),(t134),(t135),(by first|rfl|(simp;done)|(simp [*];done)),H',⟨by first|omega|exact Nat.le_refl _⟩,⟨by (with_reducible repeat (first|apply Kd.R_alloc|apply Kd.R_drewN|apply Kd.R_drew));exact HO131.out⟩,⟨by (with_reducible repeat first|apply bkN|apply bkD|apply bkA);exact BK128.out⟩,⟨by (with_reducible repeat first|apply bkN|apply bkD|apply bkA);exact BK132.out⟩,⟨by repeat (first|(with_reducible first|exact HI0.out|apply I97.alloc|apply I97.drewN|apply I97.drew|apply I97.set_1|apply I97.set_2|refine I97.far ?_ NB0_128.out _|refine I97.far ?_ NB0_132.out _)|exact HI0.out)⟩,⟨by repeat (first|(with_reducible first|exact HK.out|apply KeepBut.set_|apply kpN|apply kpD|apply kpA|refine kpF ?_ GW128.out _|refine kpF ?_ GW132.out _)|exact HK.out)⟩,⟨by repeat (first|(with_reducible first|exact HB.out|apply bal|apply pdN|apply bdr|refine bst ?_ (I97.ge HI0.out)|refine bst ?_ GE128.out|refine bst ?_ GE132.out)|exact HB.out)⟩⟩
  ·rw [if_neg c15] at H
   have c15b0:(t133==0)=false:=beq_eq_false_iff_ne.mpr c15;have c15b1:(t133 != 0)=true:=bne_iff_ne.mpr c15
   (first|rw [c15b0]|(simp only [i64_w,i32_w];rw [c15b0])|skip)
   have H':=A0_.mk H
   clear H
   go_wp2_with (first|((with_reducible refine gtC (f:=69) rfl ?_);refine goesL_ (some 6) rfl rfl Try.func69 (by kernel_rfl) rfl #[.pointer (some ⟨g,0,none⟩),.int .i64 8] rfl (by (try simp only [List.map_toArray,List.map_cons,List.map_nil]);first|done|rfl|(simp only [List.length_drop,List.length_take];rfl)) ?_;(with_reducible refine (c6_pick.calls g s0_0 s0_1 s0_2 8 t133 t134 t135 w0 _ ?side1 ?side2 A14.out).mono ?_);(case side1=>repeat (first|(with_reducible first|exact HI0.out|apply I97.alloc|apply I97.drewN|apply I97.drew|apply I97.set_1|apply I97.set_2|refine I97.far ?_ NB0_128.out _|refine I97.far ?_ NB0_132.out _)|exact HI0.out));(case side2=>repeat (first|(with_reducible first|exact HB.out|apply bal|apply pdN|apply bdr|refine bst ?_ (I97.ge HI0.out)|refine bst ?_ GE128.out|refine bst ?_ GE132.out)|exact HB.out));rintro e w17 ⟨rfl,hi,hb,hk⟩;refine ⟨_,rfl,?_⟩;have n0_:=A0_.mk (KeepBut.blk hk (g':=gb128) (o:=.cells #[.slice A1_0 l1_0.length c1_0] 36 (0,0)) (by (with_reducible repeat first|apply bkN|apply bkD|apply bkA);exact BK128.out) NB128_0.out (by simp));have n1_:=A0_.mk (Kd.R_mono (Kd.R_keep (I97.apart (show I97 w0 _ g s0_0 s0_1 s0_2 from by repeat (first|(with_reducible first|exact HI0.out|apply I97.alloc|apply I97.drewN|apply I97.drew|apply I97.set_1|apply I97.set_2|refine I97.far ?_ NB0_128.out _|refine I97.far ?_ NB0_132.out _)|exact HI0.out)) (by (with_reducible repeat (first|apply Kd.R_alloc|apply Kd.R_drewN|apply Kd.R_drew));exact HO131.out) (by decide)) hk (fun _ h=>h.2)) (fun _ h=>h.1));have n2_:=A0_.mk (KeepBut.blk hk (g':=gb132) (o:=.cells #[.slice Ao10 t129.length co10] 36 (0,0)) (by (with_reducible repeat first|apply bkN|apply bkD|apply bkA);exact BK132.out) NB132_0.out (by simp));have n3_:=A0_.mk (KeepBut.trans (by repeat (first|(with_reducible first|exact HK.out|apply KeepBut.set_|apply kpN|apply kpD|apply kpA|refine kpF ?_ GW128.out _|refine kpF ?_ GW132.out _)|exact HK.out)) hk (.inl rfl));have n4_:=A0_.mk (hb);have n5_:=A0_.mk (hi);clear BK128;clear HO131;clear BK132;clear HK;clear HB;clear HI0;have BK128:=n0_;have HO131:=n1_;have BK132:=n2_;have HK:=n3_;have HB:=n4_;have HI0:=n5_;clear n0_ n1_ n2_ n3_ n4_ n5_;(try clear hb);(try clear hb2);(try clear hk);(try clear hi);have hnb18:=NB132_128.out;have hnc18:=NB128_132.out;have hnb19:=NB132_0.out;have hnc19:=NB0_132.out;have hcz20_0:w17.cell? ⟨gb132,0,none⟩=some (.slice Ao10 t129.length co10):=(bkC BK132.out 0).trans rfl;have hfz20_0:=bkF BK132.out 0))
   go_meet
   case rel=>exact ⟨_,(((t129.length:Int)==0)),(t134),(t135),(by first|rfl|(simp;done)|(simp [*];done)),H',⟨by first|omega|exact Nat.le_refl _⟩,⟨by (with_reducible repeat (first|apply Kd.R_alloc|apply Kd.R_drewN|apply Kd.R_drew));exact HO131.out⟩,⟨by (with_reducible repeat first|apply bkN|apply bkD|apply bkA);exact BK128.out⟩,⟨by (with_reducible repeat first|apply bkN|apply bkD|apply bkA);exact BK132.out⟩,⟨by repeat (first|(with_reducible first|exact HI0.out|apply I97.alloc|apply I97.drewN|apply I97.drew|apply I97.set_1|apply I97.set_2|refine I97.far ?_ NB0_128.out _|refine I97.far ?_ NB0_132.out _)|exact HI0.out)⟩,⟨by repeat (first|(with_reducible first|exact HK.out|apply KeepBut.set_|apply kpN|apply kpD|apply kpA|refine kpF ?_ GW128.out _|refine kpF ?_ GW132.out _)|exact HK.out)⟩,⟨by repeat (first|(with_reducible first|exact HB.out|apply bal|apply pdN|apply bdr|refine bst ?_ (I97.ge HI0.out)|refine bst ?_ GE128.out|refine bst ?_ GE132.out)|exact HB.out)⟩⟩
 case rest=>
  clear HC4;(try clear c1);(try clear p2);(try clear c6);(try clear c7);(try clear c9);(try clear c11);(try clear c12);(try clear c15);(try clear c15b0);(try clear c15b1);(try clear c18);(try clear c19);(try clear hcz13_0);(try clear hcz20_0);(try clear hcz7_0);(try clear hfz13_0);(try clear hfz20_0);(try clear hfz7_0);obtain ⟨kq,x15_3,x1001_3,x1002_3,rfl,HA,HJ3,HO_133000,BK128,BK132,HI0,HK,HB⟩:=hcut
  cases kq with
  |zero=>exact absurd HA.out (by simp [c6_spoilforest.j0])
  |succ kj3=>
   have H:=HA.out;clear HA;simp only [c6_spoilforest.j0] at H
   by_cases c21:x15_3=true
   ·subst c21
    have H1:(some (([]:List (S75)),x1001_3,x1002_3))=some (r1,r2,r3):=by rw [if_pos rfl] at H;exact H
    clear H;have H:=H1;clear H1;simp only [Option.some.injEq,Prod.mk.injEq] at H;obtain ⟨rfl,rfl,rfl⟩:=H;have hnb22:=NB132_128.out;have hnc22:=NB128_132.out;have hnb23:=NB132_0.out;have hnc23:=NB0_132.out;have hcz24_0:wc.cell? ⟨gb132,0,none⟩=some (.slice Ao10 t129.length co10):=(bkC BK132.out 0).trans rfl
    have hfz24_0:=bkF BK132.out 0;go_wp2
    (first|refine bodyPost_ret (results_none rfl _ _ _) rfl ?_|go_end0)
    exact ⟨by first|rfl|(simp;done),_,by (with_reducible repeat first|apply bkN|apply bkD|apply bkA);refine bkP (cs:=#[.slice Ao10 t129.length co10]) ?_ 0 _ rfl;(with_reducible repeat first|apply bkN|apply bkD|apply bkA);exact BK132.out,by (with_reducible repeat first|apply bkN|apply bkD|apply bkA);refine bkf ?_ NB128_132.out _;(with_reducible repeat first|apply bkN|apply bkD|apply bkA);exact BK128.out,by first|exact Kd.R_nil _ _ _ _ _|exact Kd.N_nil _ _ _ _ _|exact Kd.V_nil _ _ _ _ _|exact Kd.Q_nil _ _ _ _ _|exact Kd.S_nil _ _ _ _ _,by repeat (first|(with_reducible first|exact HI0.out|apply I97.alloc|apply I97.drewN|apply I97.drew|apply I97.set_1|apply I97.set_2|refine I97.far ?_ NB0_128.out _|refine I97.far ?_ NB0_132.out _)|exact HI0.out),by repeat (first|(with_reducible first|exact HB.out|apply bal|apply pdN|apply bdr|refine bst ?_ (I97.ge HI0.out)|refine bst ?_ GE128.out|refine bst ?_ GE132.out)|exact HB.out),by repeat (first|(with_reducible first|exact HK.out|apply KeepBut.set_|apply kpN|apply kpD|apply kpA|refine kpF ?_ GW128.out _|refine kpF ?_ GW132.out _)|exact HK.out)⟩
   ·replace c21:=Bool.eq_false_iff.mpr c21
    subst c21;have H1:((c6_pick.f s0_0 x1001_3 x1002_3 (t129.length:Int)).bind fun bt136=>((c6_pick.f s0_0 bt136.2.1 bt136.2.2 4).bind fun bt139=>(if bt139.1=0 then ((c6_pick.f s0_0 bt139.2.1 bt139.2.2 (wrap64 ((t129.length:Int)+2))).bind fun bt142=>(if 0≤bt136.1 then (if bt136.1 < (t129.length:Int) then (some ((t129.set (bt136.1:Int).toNat (⟨wrap64 (bt142.1 - 1),(rT t129 bt136.1).f1,(rT t129 bt136.1).f2⟩:S75)),bt142.2.1,bt142.2.2)) else (none)) else (none))) else (if bt139.1=1 then ((c6_word.f kj3 s0_0 bt139.2.1 bt139.2.2).bind fun bt146=>(if 0≤bt136.1 then (if bt136.1 < (t129.length:Int) then (some ((t129.set (bt136.1:Int).toNat (⟨(rT t129 bt136.1).f0,bt146.1,(rT t129 bt136.1).f2⟩:S75)),bt146.2.1,bt146.2.2)) else (none)) else (none))) else (if bt139.1=2 then (if 0≤bt136.1 then (if bt136.1 < (t129.length:Int) then ((c6_pick.f s0_0 bt139.2.1 bt139.2.2 3).bind fun bt151=>(some ((t129.set (bt136.1:Int).toNat (⟨(rT t129 bt136.1).f0,(rT t129 bt136.1).f1,wrap64 (((rT t129 bt136.1).f2)+(wrap64 (bt151.1 - 1)))⟩:S75)),bt151.2.1,bt151.2.2))) else (none)) else (none)) else (if 0≤bt136.1 then (if bt136.1 < (t129.length:Int) then (if t129.length < 4398046511104 then (some ((t129++[(⟨(rT t129 bt136.1).f0,(rT t129 bt136.1).f1,(rT t129 bt136.1).f2⟩:S75)]),bt139.2.1,bt139.2.2)) else (none)) else (none)) else (none)))))))=some (r1,r2,r3):=by rw [if_neg (show ¬ (false=true) by decide)] at H;exact H
    clear H;have H:=H1;clear H1;replace H:=Option.bind_eq_some_iff.mp H;obtain ⟨⟨t136,t137,t138⟩,A250,H⟩:=H
    replace H:((c6_pick.f s0_0 t137 t138 4).bind fun bt139=>(if bt139.1=0 then ((c6_pick.f s0_0 bt139.2.1 bt139.2.2 (wrap64 ((t129.length:Int)+2))).bind fun bt142=>(if 0≤t136 then (if t136 < (t129.length:Int) then (some ((t129.set (t136:Int).toNat (⟨wrap64 (bt142.1 - 1),(rT t129 t136).f1,(rT t129 t136).f2⟩:S75)),bt142.2.1,bt142.2.2)) else (none)) else (none))) else (if bt139.1=1 then ((c6_word.f kj3 s0_0 bt139.2.1 bt139.2.2).bind fun bt146=>(if 0≤t136 then (if t136 < (t129.length:Int) then (some ((t129.set (t136:Int).toNat (⟨(rT t129 t136).f0,bt146.1,(rT t129 t136).f2⟩:S75)),bt146.2.1,bt146.2.2)) else (none)) else (none))) else (if bt139.1=2 then (if 0≤t136 then (if t136 < (t129.length:Int) then ((c6_pick.f s0_0 bt139.2.1 bt139.2.2 3).bind fun bt151=>(some ((t129.set (t136:Int).toNat (⟨(rT t129 t136).f0,(rT t129 t136).f1,wrap64 (((rT t129 t136).f2)+(wrap64 (bt151.1 - 1)))⟩:S75)),bt151.2.1,bt151.2.2))) else (none)) else (none)) else (if 0≤t136 then (if t136 < (t129.length:Int) then (if t129.length < 4398046511104 then (some ((t129++[(⟨(rT t129 t136).f0,(rT t129 t136).f1,(rT t129 t136).f2⟩:S75)]),bt139.2.1,bt139.2.2)) else (none)) else (none)) else (none))))))=some (r1,r2,r3):=H
    have A25:=A0_.mk A250;clear A250;replace H:=Option.bind_eq_some_iff.mp H;obtain ⟨⟨t139,t140,t141⟩,A260,H⟩:=H
    replace H:(if t139=0 then ((c6_pick.f s0_0 t140 t141 (wrap64 ((t129.length:Int)+2))).bind fun bt142=>(if 0≤t136 then (if t136 < (t129.length:Int) then (some ((t129.set (t136:Int).toNat (⟨wrap64 (bt142.1 - 1),(rT t129 t136).f1,(rT t129 t136).f2⟩:S75)),bt142.2.1,bt142.2.2)) else (none)) else (none))) else (if t139=1 then ((c6_word.f kj3 s0_0 t140 t141).bind fun bt146=>(if 0≤t136 then (if t136 < (t129.length:Int) then (some ((t129.set (t136:Int).toNat (⟨(rT t129 t136).f0,bt146.1,(rT t129 t136).f2⟩:S75)),bt146.2.1,bt146.2.2)) else (none)) else (none))) else (if t139=2 then (if 0≤t136 then (if t136 < (t129.length:Int) then ((c6_pick.f s0_0 t140 t141 3).bind fun bt151=>(some ((t129.set (t136:Int).toNat (⟨(rT t129 t136).f0,(rT t129 t136).f1,wrap64 (((rT t129 t136).f2)+(wrap64 (bt151.1 - 1)))⟩:S75)),bt151.2.1,bt151.2.2))) else (none)) else (none)) else (if 0≤t136 then (if t136 < (t129.length:Int) then (if t129.length < 4398046511104 then (some ((t129++[(⟨(rT t129 t136).f0,(rT t129 t136).f1,(rT t129 t136).f2⟩:S75)]),t140,t141)) else (none)) else (none)) else (none)))))=some (r1,r2,r3):=H
    have A26:=A0_.mk A260;clear A260
    by_cases c27:t139=0
    ·rw [if_pos c27] at H
     have c27b0:(t139==0)=true:=beq_iff_eq.mpr c27;have c27b1:(t139 != 0)=false:=bne_eq_false_iff_eq.mpr c27;clear c27;replace H:=Option.bind_eq_some_iff.mp H;obtain ⟨⟨t142,t143,t144⟩,A280,H⟩:=H
     replace H:(if 0≤t136 then (if t136 < (t129.length:Int) then (some ((t129.set (t136:Int).toNat (⟨wrap64 (t142 - 1),(rT t129 t136).f1,(rT t129 t136).f2⟩:S75)),t143,t144)) else (none)) else (none))=some (r1,r2,r3):=H
     have A28:=A0_.mk A280;clear A280
     by_cases c29:0≤t136
     ·rw [if_pos c29] at H
      have c29b0:decide (0≤t136)=true:=decide_eq_true c29;clear c29
      by_cases c30:t136 < (t129.length:Int)
      ·rw [if_pos c30] at H
       have c30b0:decide (t136 < (t129.length:Int))=true:=decide_eq_true c30;clear c30;obtain ⟨y145,hy145⟩:∃ y_:List (S75),y_=(t129.set (t136:Int).toNat (⟨wrap64 (t142 - 1),(rT t129 t136).f1,(rT t129 t136).f2⟩:S75)):=⟨_,rfl⟩
       replace H:(some (y145,t143,t144))=some (r1,r2,r3):=by first|(rw [hy145];with_reducible exact H)|(have H2_:=(Option.bind_some _ _).symm.trans H;rw [hy145];with_reducible exact H2_)|(have H2_:=(Option.bind_some _ _).symm.trans H;with_reducible exact H2_)|with_reducible exact H|(rw [hy145];exact H)|exact H
       have Ny145:=A0_.mk hy145;clear hy145;simp only [Option.some.injEq,Prod.mk.injEq] at H;obtain ⟨rfl,rfl,rfl⟩:=H;have hnb32:=NB132_128.out;have hnc32:=NB128_132.out;have hnb33:=NB132_0.out;have hnc33:=NB0_132.out;have hcz34_0:wc.cell? ⟨gb132,0,none⟩=some (.slice Ao10 t129.length co10):=(bkC BK132.out 0).trans rfl
       have hfz34_0:=bkF BK132.out 0
       try go_wp2_with (first|((with_reducible refine gtC (f:=69) rfl ?_);refine goesL_ (some 25) rfl rfl Try.func69 (by kernel_rfl) rfl #[.pointer (some ⟨g,0,none⟩),.int .i64 (t129.length:Int)] rfl (by (try simp only [List.map_toArray,List.map_cons,List.map_nil]);first|done|rfl|(simp only [List.length_drop,List.length_take];rfl)) ?_;(with_reducible refine (c6_pick.calls g s0_0 x1001_3 x1002_3 (t129.length:Int) t136 t137 t138 w0 _ ?side1 ?side2 A25.out).mono ?_);(case side1=>repeat (first|(with_reducible first|exact HI0.out|apply I97.alloc|apply I97.drewN|apply I97.drew|apply I97.set_1|apply I97.set_2|refine I97.far ?_ NB0_128.out _|refine I97.far ?_ NB0_132.out _)|exact HI0.out));(case side2=>repeat (first|(with_reducible first|exact HB.out|apply bal|apply pdN|apply bdr|refine bst ?_ (I97.ge HI0.out)|refine bst ?_ GE128.out|refine bst ?_ GE132.out)|exact HB.out));rintro e w35 ⟨rfl,hi,hb,hk⟩;refine ⟨_,rfl,?_⟩;have n0_:=A0_.mk (Kd.R_mono (Kd.R_keep (I97.apart (show I97 w0 _ g s0_0 x1001_3 x1002_3 from by repeat (first|(with_reducible first|exact HI0.out|apply I97.alloc|apply I97.drewN|apply I97.drew|apply I97.set_1|apply I97.set_2|refine I97.far ?_ NB0_128.out _|refine I97.far ?_ NB0_132.out _)|exact HI0.out)) (by (with_reducible repeat (first|apply Kd.R_alloc|apply Kd.R_drewN|apply Kd.R_drew));exact HO_133000.out) (by decide)) hk (fun _ h=>h.2)) (fun _ h=>h.1));have n1_:=A0_.mk (KeepBut.blk hk (g':=gb128) (o:=.cells #[.slice A1_0 l1_0.length c1_0] 36 (0,0)) (by (with_reducible repeat first|apply bkN|apply bkD|apply bkA);exact BK128.out) NB128_0.out (by simp));have n2_:=A0_.mk (KeepBut.blk hk (g':=gb132) (o:=.cells #[.slice Ao10 t129.length co10] 36 (0,0)) (by (with_reducible repeat first|apply bkN|apply bkD|apply bkA);exact BK132.out) NB132_0.out (by simp));have n3_:=A0_.mk (KeepBut.trans (by repeat (first|(with_reducible first|exact HK.out|apply KeepBut.set_|apply kpN|apply kpD|apply kpA|refine kpF ?_ GW128.out _|refine kpF ?_ GW132.out _)|exact HK.out)) hk (.inl rfl));have n4_:=A0_.mk (hb);have n5_:=A0_.mk (hi);clear HO_133000;clear BK128;clear BK132;clear HK;clear HB;clear HI0;have HO_133000:=n0_;have BK128:=n1_;have BK132:=n2_;have HK:=n3_;have HB:=n4_;have HI0:=n5_;clear n0_ n1_ n2_ n3_ n4_ n5_;(try clear hb);(try clear hb2);(try clear hk);(try clear hi))|((with_reducible refine gtC (f:=69) rfl ?_);refine goesL_ (some 27) rfl rfl Try.func69 (by kernel_rfl) rfl #[.pointer (some ⟨g,0,none⟩),.int .i64 4] rfl (by (try simp only [List.map_toArray,List.map_cons,List.map_nil]);first|done|rfl|(simp only [List.length_drop,List.length_take];rfl)) ?_;(with_reducible refine (c6_pick.calls g s0_0 t137 t138 4 t139 t140 t141 w0 _ ?side1 ?side2 A26.out).mono ?_);(case side1=>repeat (first|(with_reducible first|exact HI0.out|apply I97.alloc|apply I97.drewN|apply I97.drew|apply I97.set_1|apply I97.set_2|refine I97.far ?_ NB0_128.out _|refine I97.far ?_ NB0_132.out _)|exact HI0.out));(case side2=>repeat (first|(with_reducible first|exact HB.out|apply bal|apply pdN|apply bdr|refine bst ?_ (I97.ge HI0.out)|refine bst ?_ GE128.out|refine bst ?_ GE132.out)|exact HB.out));rintro e w36 ⟨rfl,hi,hb,hk⟩;refine ⟨_,rfl,?_⟩;have n0_:=A0_.mk (Kd.R_mono (Kd.R_keep (I97.apart (show I97 w0 _ g s0_0 t137 t138 from by repeat (first|(with_reducible first|exact HI0.out|apply I97.alloc|apply I97.drewN|apply I97.drew|apply I97.set_1|apply I97.set_2|refine I97.far ?_ NB0_128.out _|refine I97.far ?_ NB0_132.out _)|exact HI0.out)) (by (with_reducible repeat (first|apply Kd.R_alloc|apply Kd.R_drewN|apply Kd.R_drew));exact HO_133000.out) (by decide)) hk (fun _ h=>h.2)) (fun _ h=>h.1));have n1_:=A0_.mk (KeepBut.blk hk (g':=gb128) (o:=.cells #[.slice A1_0 l1_0.length c1_0] 36 (0,0)) (by (with_reducible repeat first|apply bkN|apply bkD|apply bkA);exact BK128.out) NB128_0.out (by simp));have n2_:=A0_.mk (KeepBut.blk hk (g':=gb132) (o:=.cells #[.slice Ao10 t129.length co10] 36 (0,0)) (by (with_reducible repeat first|apply bkN|apply bkD|apply bkA);exact BK132.out) NB132_0.out (by simp));have n3_:=A0_.mk (KeepBut.trans (by repeat (first|(with_reducible first|exact HK.out|apply KeepBut.set_|apply kpN|apply kpD|apply kpA|refine kpF ?_ GW128.out _|refine kpF ?_ GW132.out _)|exact HK.out)) hk (.inl rfl));have n4_:=A0_.mk (hb);have n5_:=A0_.mk (hi);clear HO_133000;clear BK128;clear BK132;clear HK;clear HB;clear HI0;have HO_133000:=n0_;have BK128:=n1_;have BK132:=n2_;have HK:=n3_;have HB:=n4_;have HI0:=n5_;clear n0_ n1_ n2_ n3_ n4_ n5_;(try clear hb);(try clear hb2);(try clear hk);(try clear hi)))
       have n0_:=A0_.mk (Kd.R_drew HO_133000.out);have n1_:=A0_.mk (bkD BK128.out);have n2_:=A0_.mk (bkD BK132.out);have n3_:=A0_.mk (I97.drew HI0.out);have n4_:=A0_.mk (kpD HK.out);have n5_:=A0_.mk (bdr HB.out);clear HO_133000;clear BK128;clear BK132;clear HI0;clear HK;clear HB;have HO_133000:=n0_;have BK128:=n1_;have BK132:=n2_;have HI0:=n3_;have HK:=n4_;have HB:=n5_;clear n0_ n1_ n2_ n3_ n4_ n5_;refine start_ (n:=17) (S:=fun w'=>w'.cell? ⟨gb132,0,none⟩=some (.slice Ao10 t129.length co10)) (ds:=[16]) #[n_,n_,n_,n_,n_,n_,n_,n_,n_,n_,n_,n_,n_,n_,n_,n_,n_] (by kernel_rfl) rfl rfl ((bkC BK132.out 0).trans rfl) (fun hHeld=>?_);refine with_tabW c6_spoilforest.tab6 c6_spoilforest.bits6 (fun HT_ HW_=>?_)
       generalize w36.drew=w37 at HO_133000 BK128 BK132 HI0 HK HB hHeld ⊢
       refine pure_ (i:=0) (N:=some 46) (v:=?_) (a':=?_) #[y_,n_,n_,n_,n_,n_,n_,n_,n_,n_,n_,n_,n_,n_,n_,n_,n_] rfl rfl (any_of HT_.out (by kernel_rfl)) (fun _ _ _ h=>h) (Or.inl ⟨by rfl,?_⟩) ?_ ?_;rotate_left
       ·intro w'
        go_simp;with_reducible rfl
       rotate_left
       ·simp only [Act.put,List.setIfInBounds_toArray,List.set_cons_zero,List.set_cons_succ,i64_w,i32_w]
        rfl
       refine pure_ (i:=1) (N:=some 47) (v:=?_) (a':=?_) #[y_,y_,n_,n_,n_,n_,n_,n_,n_,n_,n_,n_,n_,n_,n_,n_,n_] rfl rfl (any_of HT_.out (by kernel_rfl)) (fun _ _ _ h=>h) (Or.inl ⟨by rfl,?_⟩) ?_ ?_;rotate_left
       ·intro w'
        go_simp;with_reducible rfl
       rotate_left
       ·simp only [Act.put,List.setIfInBounds_toArray,List.set_cons_zero,List.set_cons_succ,i64_w,i32_w]
        rfl
       refine pure_ (i:=2) (N:=some 48) (v:=?_) (a':=?_) #[y_,y_,y_,n_,n_,n_,n_,n_,n_,n_,n_,n_,n_,n_,n_,n_,n_] rfl rfl (any_of HT_.out (by kernel_rfl)) (fun _ _ _ h=>h) (Or.inl ⟨by rfl,?_⟩) ?_ ?_;rotate_left
       ·intro w'
        go_simp;with_reducible rfl
       rotate_left
       ·simp only [Act.put,List.setIfInBounds_toArray,List.set_cons_zero,List.set_cons_succ,i64_w,i32_w]
        rfl
       refine pure_ (i:=4) (N:=some 50) (v:=?_) (a':=?_) #[y_,y_,y_,n_,y_,n_,n_,n_,n_,n_,n_,n_,n_,n_,n_,n_,n_] rfl rfl (any_of HT_.out (by kernel_rfl)) (fun _ _ _ h=>h) (Or.inl ⟨by rfl,?_⟩) ?_ ?_;rotate_left
       ·intro w'
        go_simp;with_reducible rfl
       rotate_left
       ·simp only [Act.put,List.setIfInBounds_toArray,List.set_cons_zero,List.set_cons_succ,i64_w,i32_w]
        rfl
       refine pure_ (i:=5) (N:=some 51) (v:=?_) (a':=?_) #[y_,y_,y_,n_,y_,y_,n_,n_,n_,n_,n_,n_,n_,n_,n_,n_,n_] rfl rfl (any_of HT_.out (by kernel_rfl)) (fun _ _ _ h=>h) (Or.inl ⟨by rfl,?_⟩) ?_ ?_;rotate_left
       ·intro w'
        go_simp;with_reducible rfl
       rotate_left
       ·simp only [Act.put,List.setIfInBounds_toArray,List.set_cons_zero,List.set_cons_succ,i64_w,i32_w]
        rfl
       refine pure_ (i:=6) (N:=some 52) (v:=?_) (a':=?_) #[y_,y_,y_,n_,y_,y_,y_,n_,n_,n_,n_,n_,n_,n_,n_,n_,n_] rfl rfl (any_of HT_.out (by kernel_rfl)) (fun _ _ _ h=>h) (Or.inl ⟨by rfl,?_⟩) ?_ ?_;rotate_left
       ·intro w'
        go_simp;with_reducible rfl
       rotate_left
       ·simp only [Act.put,List.setIfInBounds_toArray,List.set_cons_zero,List.set_cons_succ,i64_w,i32_w]
        rfl
       refine pure_ (i:=7) (N:=some 53) (v:=?_) (a':=?_) #[y_,y_,y_,n_,y_,y_,y_,y_,n_,n_,n_,n_,n_,n_,n_,n_,n_] rfl rfl (any_of HT_.out (by kernel_rfl)) (fun _ _ _ h=>h) (Or.inl ⟨by rfl,?_⟩) ?_ ?_;rotate_left
       ·intro w'
        go_simp;with_reducible rfl
       rotate_left
       ·simp only [Act.put,List.setIfInBounds_toArray,List.set_cons_zero,List.set_cons_succ,i64_w,i32_w]
        rfl
       refine pure_ (i:=8) (N:=some 54) (v:=?_) (a':=?_) #[y_,y_,y_,n_,y_,y_,y_,y_,y_,n_,n_,n_,n_,n_,n_,n_,n_] rfl rfl (any_of HT_.out (by kernel_rfl)) (fun _ _ _ h=>h) (Or.inl ⟨by rfl,?_⟩) ?_ ?_;rotate_left
       ·intro w'
        go_simp;with_reducible rfl
       rotate_left
       ·simp only [Act.put,List.setIfInBounds_toArray,List.set_cons_zero,List.set_cons_succ,i64_w,i32_w]
        rfl
       refine take_ (i:=3) (N:=some 49) (v:=?_) (a':=?_) #[y_,y_,y_,y_,y_,y_,y_,y_,y_,n_,n_,n_,n_,n_,n_,n_,n_] rfl rfl (take_ofW HT_.out HW_.out (by kernel_rfl)) (fun _ _ _ h=>h) (Or.inl ⟨by rfl,?_⟩) hHeld ?_ ?_;rotate_left
       ·intro w' s0
        go_simp;with_reducible rfl
       rotate_left
       ·simp only [Act.put,List.setIfInBounds_toArray,List.set_cons_zero,List.set_cons_succ,i64_w,i32_w]
        rfl
       refine take_ (i:=9) (N:=some 55) (v:=?_) (a':=?_) #[y_,y_,y_,y_,y_,y_,y_,y_,y_,y_,n_,n_,n_,n_,n_,n_,n_] rfl rfl (take_ofW HT_.out HW_.out (by kernel_rfl)) (fun _ _ _ h=>h) (Or.inl ⟨by rfl,?_⟩) hHeld ?_ ?_;rotate_left
       ·intro w' s0
        go_simp;with_reducible rfl
       rotate_left
       ·simp only [Act.put,List.setIfInBounds_toArray,List.set_cons_zero,List.set_cons_succ,i64_w,i32_w]
        rfl
       refine pure_ (i:=10) (N:=some 56) (v:=?_) (a':=?_) #[y_,y_,y_,y_,y_,y_,y_,y_,y_,y_,y_,n_,n_,n_,n_,n_,n_] rfl rfl (any_of HT_.out (by kernel_rfl)) (fun _ _ _ h=>h) (Or.inl ⟨by rfl,?_⟩) ?_ ?_;rotate_left
       ·intro w'
        go_simp;with_reducible rfl
       rotate_left
       ·simp only [Act.put,List.setIfInBounds_toArray,List.set_cons_zero,List.set_cons_succ,i64_w,i32_w]
        rfl
       refine pure_ (i:=11) (N:=some 57) (v:=?_) (a':=?_) #[y_,y_,y_,y_,y_,y_,y_,y_,y_,y_,y_,y_,n_,n_,n_,n_,n_] rfl rfl (any_of HT_.out (by kernel_rfl)) (fun _ _ _ h=>h) (Or.inl ⟨by rfl,?_⟩) ?_ ?_;rotate_left
       ·intro w'
        go_simp;with_reducible rfl
       rotate_left
       ·simp only [Act.put,List.setIfInBounds_toArray,List.set_cons_zero,List.set_cons_succ,i64_w,i32_w]
        rfl
       refine one_ (i:=12) (N:=some 58) #[y_,y_,y_,y_,y_,y_,y_,y_,y_,y_,y_,y_,y_,n_,n_,n_,n_] rfl rfl (one_of HT_.out (by kernel_rfl)) (by decide) (fun K hK=>?_);refine goes_ Try.func69 (by kernel_rfl) rfl #[.pointer (some ⟨g,0,none⟩),.int .i64 (wrap64 ((t129.length:Int)+2))] (by rfl) rfl rfl (by (try simp only [List.map_toArray,List.map_cons,List.map_nil]);first|done|rfl|(simp only [List.length_drop,List.length_take];rfl)) ?_
       with_reducible refine (c6_pick.calls g s0_0 t140 t141 (wrap64 ((t129.length:Int)+2)) t142 t143 t144 w0 _ ?side1 ?side2 A28.out).mono ?_
       (case side1=>repeat (first|(with_reducible first|exact HI0.out|apply I97.alloc|apply I97.drewN|apply I97.drew|apply I97.set_1|apply I97.set_2|refine I97.far ?_ NB0_128.out _|refine I97.far ?_ NB0_132.out _)|exact HI0.out))
       (case side2=>repeat (first|(with_reducible first|exact HB.out|apply bal|apply pdN|apply bdr|refine bst ?_ (I97.ge HI0.out)|refine bst ?_ GE128.out|refine bst ?_ GE132.out)|exact HB.out))
       rintro e w38 ⟨rfl,hi,hb,hk⟩
       refine ⟨_,rfl,?_⟩;have n0_:=A0_.mk (Kd.R_mono (Kd.R_keep (I97.apart (show I97 w0 _ g s0_0 t140 t141 from by repeat (first|(with_reducible first|exact HI0.out|apply I97.alloc|apply I97.drewN|apply I97.drew|apply I97.set_1|apply I97.set_2|refine I97.far ?_ NB0_128.out _|refine I97.far ?_ NB0_132.out _)|exact HI0.out)) (by (with_reducible repeat (first|apply Kd.R_alloc|apply Kd.R_drewN|apply Kd.R_drew));exact HO_133000.out) (by decide)) hk (fun _ h=>h.2)) (fun _ h=>h.1));have n1_:=A0_.mk (KeepBut.blk hk (g':=gb128) (o:=.cells #[.slice A1_0 l1_0.length c1_0] 36 (0,0)) (by (with_reducible repeat first|apply bkN|apply bkD|apply bkA);exact BK128.out) NB128_0.out (by simp));have n2_:=A0_.mk (KeepBut.blk hk (g':=gb132) (o:=.cells #[.slice Ao10 t129.length co10] 36 (0,0)) (by (with_reducible repeat first|apply bkN|apply bkD|apply bkA);exact BK132.out) NB132_0.out (by simp));have n3_:=A0_.mk (KeepBut.trans (by repeat (first|(with_reducible first|exact HK.out|apply KeepBut.set_|apply kpN|apply kpD|apply kpA|refine kpF ?_ GW128.out _|refine kpF ?_ GW132.out _)|exact HK.out)) hk (.inl rfl));have n4_:=A0_.mk (hb);have n5_:=A0_.mk (hi);clear HO_133000;clear BK128;clear BK132;clear HK;clear HB;clear HI0;have HO_133000:=n0_;have BK128:=n1_;have BK132:=n2_;have HK:=n3_;have HB:=n4_;have HI0:=n5_;clear n0_ n1_ n2_ n3_ n4_ n5_;(try clear hb);(try clear hb2);(try clear hk);(try clear hi);have p31:0≤(t136:Int):=of_decide_eq_true (by first|(with_reducible assumption)|assumption)
       have q31:(t136:Int) < ((t129.length:Int):Int):=of_decide_eq_true (by first|(with_reducible assumption)|assumption)
       obtain ⟨go31,co31,eo31,gb31,gl31,cl31,HG31⟩:=Kd.R_form HO_133000.out (by omega)
       (first|cases eo31|(injection eo31 with ea_ en_ ec_;(first|subst ea_|(injection ea_ with ea_;subst ea_));subst ec_;clear en_))
       have GB31:=A0_.mk gb31;have GG31:=A0_.mk HG31;clear gb31 gl31 HG31;obtain ⟨ce31,hcl31,hM31,hcc31,hfr31⟩:=Kd.R_elem HO_133000.out z75 (t136:Int) p31 q31
       obtain rfl:=k75_openM hM31
       have hx31_0:World.cell? _ ⟨go31,(t136:Int).toNat * 3,none⟩=some (.int .i64 ((rT t129 t136).f0)):=hcc31 0 _ rfl
       have hx31_1:World.cell? _ ⟨go31,(t136:Int).toNat * 3+1,none⟩=some (.string ((rT t129 t136).f1)):=hcc31 1 _ rfl
       have hx31_2:World.cell? _ ⟨go31,(t136:Int).toNat * 3+2,none⟩=some (.int .i64 ((rT t129 t136).f2)):=hcc31 2 _ rfl
       have hf31_0:World.frozen? _ ⟨go31,(t136:Int).toNat * 3,none⟩=false:=hfr31 0
       have hf31_1:World.frozen? _ ⟨go31,(t136:Int).toNat * 3+1,none⟩=false:=hfr31 1
       have hf31_2:World.frozen? _ ⟨go31,(t136:Int).toNat * 3+2,none⟩=false:=hfr31 2
       clear hcl31 hcc31 hfr31 hM31;replace p31:=eq_true p31;replace q31:=eq_true q31;have HN0_go31:=A0_.mk (show g≠go31 from by have h_:=I97.own_ne HI0.out HO_133000.out (by decide);intro e_;exact h_ (by rw [e_];rfl));obtain ⟨ce39,hcl39,hM39,hcc39,hfr39⟩:=Kd.R_elem HO_133000.out z75 (t136:Int) (of_decide_eq_true (by first|(with_reducible assumption)|assumption)) (by have h_:(t136:Int) < ((t129.length:Int):Int):=of_decide_eq_true (by first|(with_reducible assumption)|assumption);first|exact h_|(have e_:=(Kd.R_reads' HO_133000.out).1;omega)|simpa using h_)
       obtain rfl:=k75_openM hM39
       have HP39:=(Kd.R_seg HO_133000.out (t136:Int) (of_decide_eq_true (by first|(with_reducible assumption)|assumption)) (by have h_:(t136:Int) < ((t129.length:Int):Int):=of_decide_eq_true (by first|(with_reducible assumption)|assumption);first|exact h_|(have e_:=(Kd.R_reads' HO_133000.out).1;omega)|simpa using h_) (seg:=[.int .i64 (wrap64 (t142 - 1))]) (j:=0) hcl39 hcc39 (show 1≤3 from by decide) (x':=(⟨wrap64 (t142 - 1),(rT t129 t136).f1,(rT t129 t136).f2⟩:S75)) (k75_mkM _ _ _ (⟨wrap64 (t142 - 1),(rT t129 t136).f1,(rT t129 t136).f2⟩:S75) ) (fun _ hk=>hk)).1;rw [← Ny145.out] at HP39;have HQ39:=A0_.mk HP39;clear hcl39 hcc39 hfr39 hM39 HP39;refine hK.out _ _ ((bkC BK132.out 0).trans rfl) (fun hHeld=>?_);clear hK K;refine norm_ (a':=?_) ?_ ?_;rotate_left
       ·show Act.put _ (some 58) _=_
        simp only [Act.put,List.setIfInBounds_toArray,List.set_cons_zero,List.set_cons_succ,i64_w,i32_w];rfl
       refine pure_ (i:=13) (N:=some 59) (v:=?_) (a':=?_) #[y_,y_,y_,y_,y_,y_,y_,y_,y_,y_,y_,y_,y_,y_,n_,n_,n_] rfl rfl (any_of HT_.out (by kernel_rfl)) (fun _ _ _ h=>h) (Or.inl ⟨by rfl,?_⟩) ?_ ?_;rotate_left
       ·intro w'
        go_simp;with_reducible rfl
       rotate_left
       ·simp only [Act.put,List.setIfInBounds_toArray,List.set_cons_zero,List.set_cons_succ,i64_w,i32_w]
        rfl
       refine pure_ (i:=14) (N:=some 60) (v:=?_) (a':=?_) #[y_,y_,y_,y_,y_,y_,y_,y_,y_,y_,y_,y_,y_,y_,y_,n_,n_] rfl rfl (any_of HT_.out (by kernel_rfl)) (fun _ _ _ h=>h) (Or.inl ⟨by rfl,?_⟩) ?_ ?_;rotate_left
       ·intro w'
        go_simp;with_reducible rfl
       rotate_left
       ·simp only [Act.put,List.setIfInBounds_toArray,List.set_cons_zero,List.set_cons_succ,i64_w,i32_w]
        rfl
       refine pure_ (i:=15) (N:=some 61) (v:=?_) (a':=?_) #[y_,y_,y_,y_,y_,y_,y_,y_,y_,y_,y_,y_,y_,y_,y_,y_,n_] rfl rfl (any_of HT_.out (by kernel_rfl)) (fun _ _ _ h=>h) (Or.inl ⟨by rfl,?_⟩) ?_ ?_;rotate_left
       ·intro w'
        go_simp;with_reducible rfl
       rotate_left
       ·simp only [Act.put,List.setIfInBounds_toArray,List.set_cons_zero,List.set_cons_succ,i64_w,i32_w]
        rfl
       refine last_ (i:=16) (N:=none) #[y_,y_,y_,y_,y_,y_,y_,y_,y_,y_,y_,y_,y_,y_,y_,y_,y_] rfl rfl (one_of HT_.out (by kernel_rfl)) (by decide) (fun K hK=>?_);refine skip_ (w1:=?_) (by rfl) rfl ?_ ?_;rotate_left
       ·go_simp
        rfl
       refine hK.out _ _ ?_;clear hK K;refine done_ (done_of HT_.out (by kernel_rfl)) ?_
       try go_wp2
       (first|refine bodyPost_ret (results_none rfl _ _ _) rfl ?_|go_end0)
       exact ⟨by first|rfl|(simp;done),_,by (with_reducible repeat first|apply bkN|apply bkD|apply bkA);refine bkf ?_ (by have h_:=Kd.R_ne HO_133000.out BK132.out (by decide);intro e_;exact h_ (by rw [e_];rfl)) _;(with_reducible repeat first|apply bkN|apply bkD|apply bkA);exact BK132.out,by (with_reducible repeat first|apply bkN|apply bkD|apply bkA);refine bkf ?_ (by have h_:=Kd.R_ne HO_133000.out BK128.out (by decide);intro e_;exact h_ (by rw [e_];rfl)) _;(with_reducible repeat first|apply bkN|apply bkD|apply bkA);exact BK128.out,by (with_reducible repeat (first|apply Kd.R_alloc|apply Kd.R_drewN|apply Kd.R_drew));exact HQ39.out,by repeat (first|(with_reducible first|exact HI0.out|apply I97.alloc|apply I97.drewN|apply I97.drew|apply I97.set_1|apply I97.set_2|refine I97.far ?_ HN0_go31.out _|refine I97.far ?_ NB0_128.out _|refine I97.far ?_ NB0_132.out _)|exact HI0.out),by repeat (first|(with_reducible first|exact HB.out|apply bal|apply pdN|apply bdr|refine bst ?_ (Nat.le_trans HL.out GB31.out)|refine bst ?_ (I97.ge HI0.out)|refine bst ?_ GE128.out|refine bst ?_ GE132.out)|exact HB.out),by repeat (first|(with_reducible first|exact HK.out|apply KeepBut.set_|apply kpN|apply kpD|apply kpA|refine kpF ?_ GB31.out _|refine kpF ?_ GW128.out _|refine kpF ?_ GW132.out _)|exact HK.out)⟩
      ·rw [if_neg c30] at H
       exact absurd H (by simp)
     ·rw [if_neg c29] at H
      exact absurd H (by simp)
    ·rw [if_neg c27] at H
     have c27b0:(t139==0)=false:=beq_eq_false_iff_ne.mpr c27;have c27b1:(t139 != 0)=true:=bne_iff_ne.mpr c27
     by_cases c40:t139=1
     ·rw [if_pos c40] at H
      have c40b0:(t139==1)=true:=beq_iff_eq.mpr c40;have c40b1:(t139 != 1)=false:=bne_eq_false_iff_eq.mpr c40;clear c40;replace H:=Option.bind_eq_some_iff.mp H;obtain ⟨⟨t146,t147,t148⟩,A410,H⟩:=H
      replace H:(if 0≤t136 then (if t136 < (t129.length:Int) then (some ((t129.set (t136:Int).toNat (⟨(rT t129 t136).f0,t146,(rT t129 t136).f2⟩:S75)),t147,t148)) else (none)) else (none))=some (r1,r2,r3):=H
      have A41:=A0_.mk A410;clear A410
      by_cases c42:0≤t136
      ·rw [if_pos c42] at H
       have c42b0:decide (0≤t136)=true:=decide_eq_true c42;clear c42
       by_cases c43:t136 < (t129.length:Int)
       ·rw [if_pos c43] at H
        have c43b0:decide (t136 < (t129.length:Int))=true:=decide_eq_true c43;clear c43;obtain ⟨y149,hy149⟩:∃ y_:List (S75),y_=(t129.set (t136:Int).toNat (⟨(rT t129 t136).f0,t146,(rT t129 t136).f2⟩:S75)):=⟨_,rfl⟩
        replace H:(some (y149,t147,t148))=some (r1,r2,r3):=by first|(rw [hy149];with_reducible exact H)|(have H2_:=(Option.bind_some _ _).symm.trans H;rw [hy149];with_reducible exact H2_)|(have H2_:=(Option.bind_some _ _).symm.trans H;with_reducible exact H2_)|with_reducible exact H|(rw [hy149];exact H)|exact H
        have Ny149:=A0_.mk hy149;clear hy149;simp only [Option.some.injEq,Prod.mk.injEq] at H;obtain ⟨rfl,rfl,rfl⟩:=H;have hnb45:=NB132_128.out;have hnc45:=NB128_132.out;have hnb46:=NB132_0.out;have hnc46:=NB0_132.out;have hcz47_0:wc.cell? ⟨gb132,0,none⟩=some (.slice Ao10 t129.length co10):=(bkC BK132.out 0).trans rfl
        have hfz47_0:=bkF BK132.out 0
        try go_wp2_with (first|((with_reducible refine gtC (f:=69) rfl ?_);refine goesL_ (some 25) rfl rfl Try.func69 (by kernel_rfl) rfl #[.pointer (some ⟨g,0,none⟩),.int .i64 (t129.length:Int)] rfl (by (try simp only [List.map_toArray,List.map_cons,List.map_nil]);first|done|rfl|(simp only [List.length_drop,List.length_take];rfl)) ?_;(with_reducible refine (c6_pick.calls g s0_0 x1001_3 x1002_3 (t129.length:Int) t136 t137 t138 w0 _ ?side1 ?side2 A25.out).mono ?_);(case side1=>repeat (first|(with_reducible first|exact HI0.out|apply I97.alloc|apply I97.drewN|apply I97.drew|apply I97.set_1|apply I97.set_2|refine I97.far ?_ NB0_128.out _|refine I97.far ?_ NB0_132.out _)|exact HI0.out));(case side2=>repeat (first|(with_reducible first|exact HB.out|apply bal|apply pdN|apply bdr|refine bst ?_ (I97.ge HI0.out)|refine bst ?_ GE128.out|refine bst ?_ GE132.out)|exact HB.out));rintro e w48 ⟨rfl,hi,hb,hk⟩;refine ⟨_,rfl,?_⟩;have n0_:=A0_.mk (Kd.R_mono (Kd.R_keep (I97.apart (show I97 w0 _ g s0_0 x1001_3 x1002_3 from by repeat (first|(with_reducible first|exact HI0.out|apply I97.alloc|apply I97.drewN|apply I97.drew|apply I97.set_1|apply I97.set_2|refine I97.far ?_ NB0_128.out _|refine I97.far ?_ NB0_132.out _)|exact HI0.out)) (by (with_reducible repeat (first|apply Kd.R_alloc|apply Kd.R_drewN|apply Kd.R_drew));exact HO_133000.out) (by decide)) hk (fun _ h=>h.2)) (fun _ h=>h.1));have n1_:=A0_.mk (KeepBut.blk hk (g':=gb128) (o:=.cells #[.slice A1_0 l1_0.length c1_0] 36 (0,0)) (by (with_reducible repeat first|apply bkN|apply bkD|apply bkA);exact BK128.out) NB128_0.out (by simp));have n2_:=A0_.mk (KeepBut.blk hk (g':=gb132) (o:=.cells #[.slice Ao10 t129.length co10] 36 (0,0)) (by (with_reducible repeat first|apply bkN|apply bkD|apply bkA);exact BK132.out) NB132_0.out (by simp));have n3_:=A0_.mk (KeepBut.trans (by repeat (first|(with_reducible first|exact HK.out|apply KeepBut.set_|apply kpN|apply kpD|apply kpA|refine kpF ?_ GW128.out _|refine kpF ?_ GW132.out _)|exact HK.out)) hk (.inl rfl));have n4_:=A0_.mk (hb);have n5_:=A0_.mk (hi);clear HO_133000;clear BK128;clear BK132;clear HK;clear HB;clear HI0;have HO_133000:=n0_;have BK128:=n1_;have BK132:=n2_;have HK:=n3_;have HB:=n4_;have HI0:=n5_;clear n0_ n1_ n2_ n3_ n4_ n5_;(try clear hb);(try clear hb2);(try clear hk);(try clear hi))|((with_reducible refine gtC (f:=69) rfl ?_);refine goesL_ (some 27) rfl rfl Try.func69 (by kernel_rfl) rfl #[.pointer (some ⟨g,0,none⟩),.int .i64 4] rfl (by (try simp only [List.map_toArray,List.map_cons,List.map_nil]);first|done|rfl|(simp only [List.length_drop,List.length_take];rfl)) ?_;(with_reducible refine (c6_pick.calls g s0_0 t137 t138 4 t139 t140 t141 w0 _ ?side1 ?side2 A26.out).mono ?_);(case side1=>repeat (first|(with_reducible first|exact HI0.out|apply I97.alloc|apply I97.drewN|apply I97.drew|apply I97.set_1|apply I97.set_2|refine I97.far ?_ NB0_128.out _|refine I97.far ?_ NB0_132.out _)|exact HI0.out));(case side2=>repeat (first|(with_reducible first|exact HB.out|apply bal|apply pdN|apply bdr|refine bst ?_ (I97.ge HI0.out)|refine bst ?_ GE128.out|refine bst ?_ GE132.out)|exact HB.out));rintro e w49 ⟨rfl,hi,hb,hk⟩;refine ⟨_,rfl,?_⟩;have n0_:=A0_.mk (Kd.R_mono (Kd.R_keep (I97.apart (show I97 w0 _ g s0_0 t137 t138 from by repeat (first|(with_reducible first|exact HI0.out|apply I97.alloc|apply I97.drewN|apply I97.drew|apply I97.set_1|apply I97.set_2|refine I97.far ?_ NB0_128.out _|refine I97.far ?_ NB0_132.out _)|exact HI0.out)) (by (with_reducible repeat (first|apply Kd.R_alloc|apply Kd.R_drewN|apply Kd.R_drew));exact HO_133000.out) (by decide)) hk (fun _ h=>h.2)) (fun _ h=>h.1));have n1_:=A0_.mk (KeepBut.blk hk (g':=gb128) (o:=.cells #[.slice A1_0 l1_0.length c1_0] 36 (0,0)) (by (with_reducible repeat first|apply bkN|apply bkD|apply bkA);exact BK128.out) NB128_0.out (by simp));have n2_:=A0_.mk (KeepBut.blk hk (g':=gb132) (o:=.cells #[.slice Ao10 t129.length co10] 36 (0,0)) (by (with_reducible repeat first|apply bkN|apply bkD|apply bkA);exact BK132.out) NB132_0.out (by simp));have n3_:=A0_.mk (KeepBut.trans (by repeat (first|(with_reducible first|exact HK.out|apply KeepBut.set_|apply kpN|apply kpD|apply kpA|refine kpF ?_ GW128.out _|refine kpF ?_ GW132.out _)|exact HK.out)) hk (.inl rfl));have n4_:=A0_.mk (hb);have n5_:=A0_.mk (hi);clear HO_133000;clear BK128;clear BK132;clear HK;clear HB;clear HI0;have HO_133000:=n0_;have BK128:=n1_;have BK132:=n2_;have HK:=n3_;have HB:=n4_;have HI0:=n5_;clear n0_ n1_ n2_ n3_ n4_ n5_;(try clear hb);(try clear hb2);(try clear hk);(try clear hi)))
        have n0_:=A0_.mk (Kd.R_drew HO_133000.out);have n1_:=A0_.mk (bkD BK128.out);have n2_:=A0_.mk (bkD BK132.out);have n3_:=A0_.mk (I97.drew HI0.out);have n4_:=A0_.mk (kpD HK.out);have n5_:=A0_.mk (bdr HB.out);clear HO_133000;clear BK128;clear BK132;clear HI0;clear HK;clear HB;have HO_133000:=n0_;have BK128:=n1_;have BK132:=n2_;have HI0:=n3_;have HK:=n4_;have HB:=n5_;clear n0_ n1_ n2_ n3_ n4_ n5_;refine start_ (n:=10) (S:=fun w'=>w'.cell? ⟨gb132,0,none⟩=some (.slice Ao10 t129.length co10)) (ds:=[9]) #[n_,n_,n_,n_,n_,n_,n_,n_,n_,n_] (by kernel_rfl) rfl rfl ((bkC BK132.out 0).trans rfl) (fun hHeld=>?_);refine with_tabW c6_spoilforest.tab8 c6_spoilforest.bits8 (fun HT_ HW_=>?_)
        generalize w49.drew=w50 at HO_133000 BK128 BK132 HI0 HK HB hHeld ⊢
        refine pure_ (i:=0) (N:=some 64) (v:=?_) (a':=?_) #[y_,n_,n_,n_,n_,n_,n_,n_,n_,n_] rfl rfl (any_of HT_.out (by kernel_rfl)) (fun _ _ _ h=>h) (Or.inl ⟨by rfl,?_⟩) ?_ ?_;rotate_left
        ·intro w'
         go_simp;with_reducible rfl
        rotate_left
        ·simp only [Act.put,List.setIfInBounds_toArray,List.set_cons_zero,List.set_cons_succ,i64_w,i32_w]
         rfl
        refine pure_ (i:=1) (N:=some 65) (v:=?_) (a':=?_) #[y_,y_,n_,n_,n_,n_,n_,n_,n_,n_] rfl rfl (any_of HT_.out (by kernel_rfl)) (fun _ _ _ h=>h) (Or.inl ⟨by rfl,?_⟩) ?_ ?_;rotate_left
        ·intro w'
         go_simp;with_reducible rfl
        rotate_left
        ·simp only [Act.put,List.setIfInBounds_toArray,List.set_cons_zero,List.set_cons_succ,i64_w,i32_w]
         rfl
        refine pure_ (i:=2) (N:=some 66) (v:=?_) (a':=?_) #[y_,y_,y_,n_,n_,n_,n_,n_,n_,n_] rfl rfl (any_of HT_.out (by kernel_rfl)) (fun _ _ _ h=>h) (Or.inl ⟨by rfl,?_⟩) ?_ ?_;rotate_left
        ·intro w'
         go_simp;with_reducible rfl
        rotate_left
        ·simp only [Act.put,List.setIfInBounds_toArray,List.set_cons_zero,List.set_cons_succ,i64_w,i32_w]
         rfl
        refine pure_ (i:=4) (N:=some 68) (v:=?_) (a':=?_) #[y_,y_,y_,n_,y_,n_,n_,n_,n_,n_] rfl rfl (any_of HT_.out (by kernel_rfl)) (fun _ _ _ h=>h) (Or.inl ⟨by rfl,?_⟩) ?_ ?_;rotate_left
        ·intro w'
         go_simp;with_reducible rfl
        rotate_left
        ·simp only [Act.put,List.setIfInBounds_toArray,List.set_cons_zero,List.set_cons_succ,i64_w,i32_w]
         rfl
        refine pure_ (i:=5) (N:=some 69) (v:=?_) (a':=?_) #[y_,y_,y_,n_,y_,y_,n_,n_,n_,n_] rfl rfl (any_of HT_.out (by kernel_rfl)) (fun _ _ _ h=>h) (Or.inl ⟨by rfl,?_⟩) ?_ ?_;rotate_left
        ·intro w'
         go_simp;with_reducible rfl
        rotate_left
        ·simp only [Act.put,List.setIfInBounds_toArray,List.set_cons_zero,List.set_cons_succ,i64_w,i32_w]
         rfl
        refine take_ (i:=3) (N:=some 67) (v:=?_) (a':=?_) #[y_,y_,y_,y_,y_,y_,n_,n_,n_,n_] rfl rfl (take_ofW HT_.out HW_.out (by kernel_rfl)) (fun _ _ _ h=>h) (Or.inl ⟨by rfl,?_⟩) hHeld ?_ ?_;rotate_left
        ·intro w' s0
         go_simp;with_reducible rfl
        rotate_left
        ·simp only [Act.put,List.setIfInBounds_toArray,List.set_cons_zero,List.set_cons_succ,i64_w,i32_w]
         rfl
        refine one_ (i:=6) (N:=some 70) #[y_,y_,y_,y_,y_,y_,y_,n_,n_,n_] rfl rfl (one_of HT_.out (by kernel_rfl)) (by decide) (fun K hK=>?_);refine goes_ Try.func70 (by kernel_rfl) rfl #[.pointer (some ⟨g,0,none⟩)] (by rfl) rfl rfl (by (try simp only [List.map_toArray,List.map_cons,List.map_nil]);first|done|rfl|(simp only [List.length_drop,List.length_take];rfl)) ?_
        with_reducible refine (c6_word.calls kj3 g s0_0 t140 t141 t146 t147 t148 w0 _ ?side1 ?side2 A41.out).mono ?_
        (case side1=>repeat (first|(with_reducible first|exact HI0.out|apply I97.alloc|apply I97.drewN|apply I97.drew|apply I97.set_1|apply I97.set_2|refine I97.far ?_ NB0_128.out _|refine I97.far ?_ NB0_132.out _)|exact HI0.out))
        (case side2=>repeat (first|(with_reducible first|exact HB.out|apply bal|apply pdN|apply bdr|refine bst ?_ (I97.ge HI0.out)|refine bst ?_ GE128.out|refine bst ?_ GE132.out)|exact HB.out))
        rintro e w51 ⟨rfl,hi,hb,hk⟩
        refine ⟨_,rfl,?_⟩;have n0_:=A0_.mk (Kd.R_mono (Kd.R_keep (I97.apart (show I97 w0 _ g s0_0 t140 t141 from by repeat (first|(with_reducible first|exact HI0.out|apply I97.alloc|apply I97.drewN|apply I97.drew|apply I97.set_1|apply I97.set_2|refine I97.far ?_ NB0_128.out _|refine I97.far ?_ NB0_132.out _)|exact HI0.out)) (by (with_reducible repeat (first|apply Kd.R_alloc|apply Kd.R_drewN|apply Kd.R_drew));exact HO_133000.out) (by decide)) hk (fun _ h=>h.2)) (fun _ h=>h.1));have n1_:=A0_.mk (KeepBut.blk hk (g':=gb128) (o:=.cells #[.slice A1_0 l1_0.length c1_0] 36 (0,0)) (by (with_reducible repeat first|apply bkN|apply bkD|apply bkA);exact BK128.out) NB128_0.out (by simp));have n2_:=A0_.mk (KeepBut.blk hk (g':=gb132) (o:=.cells #[.slice Ao10 t129.length co10] 36 (0,0)) (by (with_reducible repeat first|apply bkN|apply bkD|apply bkA);exact BK132.out) NB132_0.out (by simp));have n3_:=A0_.mk (KeepBut.trans (by repeat (first|(with_reducible first|exact HK.out|apply KeepBut.set_|apply kpN|apply kpD|apply kpA|refine kpF ?_ GW128.out _|refine kpF ?_ GW132.out _)|exact HK.out)) hk (.inl rfl));have n4_:=A0_.mk (hb);have n5_:=A0_.mk (hi);clear HO_133000;clear BK128;clear BK132;clear HK;clear HB;clear HI0;have HO_133000:=n0_;have BK128:=n1_;have BK132:=n2_;have HK:=n3_;have HB:=n4_;have HI0:=n5_;clear n0_ n1_ n2_ n3_ n4_ n5_;(try clear hb);(try clear hb2);(try clear hk);(try clear hi);have p44:0≤(t136:Int):=of_decide_eq_true (by first|(with_reducible assumption)|assumption)
        have q44:(t136:Int) < ((t129.length:Int):Int):=of_decide_eq_true (by first|(with_reducible assumption)|assumption)
        obtain ⟨go44,co44,eo44,gb44,gl44,cl44,HG44⟩:=Kd.R_form HO_133000.out (by omega)
        (first|cases eo44|(injection eo44 with ea_ en_ ec_;(first|subst ea_|(injection ea_ with ea_;subst ea_));subst ec_;clear en_))
        have GB44:=A0_.mk gb44;have GG44:=A0_.mk HG44;clear gb44 gl44 HG44;obtain ⟨ce44,hcl44,hM44,hcc44,hfr44⟩:=Kd.R_elem HO_133000.out z75 (t136:Int) p44 q44
        obtain rfl:=k75_openM hM44
        have hx44_0:World.cell? _ ⟨go44,(t136:Int).toNat * 3,none⟩=some (.int .i64 ((rT t129 t136).f0)):=hcc44 0 _ rfl
        have hx44_1:World.cell? _ ⟨go44,(t136:Int).toNat * 3+1,none⟩=some (.string ((rT t129 t136).f1)):=hcc44 1 _ rfl
        have hx44_2:World.cell? _ ⟨go44,(t136:Int).toNat * 3+2,none⟩=some (.int .i64 ((rT t129 t136).f2)):=hcc44 2 _ rfl
        have hf44_0:World.frozen? _ ⟨go44,(t136:Int).toNat * 3,none⟩=false:=hfr44 0
        have hf44_1:World.frozen? _ ⟨go44,(t136:Int).toNat * 3+1,none⟩=false:=hfr44 1
        have hf44_2:World.frozen? _ ⟨go44,(t136:Int).toNat * 3+2,none⟩=false:=hfr44 2
        clear hcl44 hcc44 hfr44 hM44;replace p44:=eq_true p44;replace q44:=eq_true q44;have HN0_go44:=A0_.mk (show g≠go44 from by have h_:=I97.own_ne HI0.out HO_133000.out (by decide);intro e_;exact h_ (by rw [e_];rfl));obtain ⟨ce52,hcl52,hM52,hcc52,hfr52⟩:=Kd.R_elem HO_133000.out z75 (t136:Int) (of_decide_eq_true (by first|(with_reducible assumption)|assumption)) (by have h_:(t136:Int) < ((t129.length:Int):Int):=of_decide_eq_true (by first|(with_reducible assumption)|assumption);first|exact h_|(have e_:=(Kd.R_reads' HO_133000.out).1;omega)|simpa using h_)
        obtain rfl:=k75_openM hM52
        have HP52:=(Kd.R_seg HO_133000.out (t136:Int) (of_decide_eq_true (by first|(with_reducible assumption)|assumption)) (by have h_:(t136:Int) < ((t129.length:Int):Int):=of_decide_eq_true (by first|(with_reducible assumption)|assumption);first|exact h_|(have e_:=(Kd.R_reads' HO_133000.out).1;omega)|simpa using h_) (seg:=[.string t146]) (j:=1) hcl52 hcc52 (show 2≤3 from by decide) (x':=(⟨(rT t129 t136).f0,t146,(rT t129 t136).f2⟩:S75)) (k75_mkM _ _ _ (⟨(rT t129 t136).f0,t146,(rT t129 t136).f2⟩:S75) ) (fun _ hk=>hk)).1;rw [← Ny149.out] at HP52;have HQ52:=A0_.mk HP52;clear hcl52 hcc52 hfr52 hM52 HP52;refine hK.out _ _ ((bkC BK132.out 0).trans rfl) (fun hHeld=>?_);clear hK K;refine norm_ (a':=?_) ?_ ?_;rotate_left
        ·show Act.put _ (some 70) _=_
         simp only [Act.put,List.setIfInBounds_toArray,List.set_cons_zero,List.set_cons_succ,i64_w,i32_w];rfl
        refine pure_ (i:=7) (N:=some 71) (v:=?_) (a':=?_) #[y_,y_,y_,y_,y_,y_,y_,y_,n_,n_] rfl rfl (any_of HT_.out (by kernel_rfl)) (fun _ _ _ h=>h) (Or.inl ⟨by rfl,?_⟩) ?_ ?_;rotate_left
        ·intro w'
         go_simp;with_reducible rfl
        rotate_left
        ·simp only [Act.put,List.setIfInBounds_toArray,List.set_cons_zero,List.set_cons_succ,i64_w,i32_w]
         rfl
        refine pure_ (i:=8) (N:=some 72) (v:=?_) (a':=?_) #[y_,y_,y_,y_,y_,y_,y_,y_,y_,n_] rfl rfl (any_of HT_.out (by kernel_rfl)) (fun _ _ _ h=>h) (Or.inl ⟨by rfl,?_⟩) ?_ ?_;rotate_left
        ·intro w'
         go_simp;with_reducible rfl
        rotate_left
        ·simp only [Act.put,List.setIfInBounds_toArray,List.set_cons_zero,List.set_cons_succ,i64_w,i32_w]
         rfl
        refine last_ (i:=9) (N:=none) #[y_,y_,y_,y_,y_,y_,y_,y_,y_,y_] rfl rfl (one_of HT_.out (by kernel_rfl)) (by decide) (fun K hK=>?_);refine skip_ (w1:=?_) (by rfl) rfl ?_ ?_;rotate_left
        ·go_simp
         rfl
        refine hK.out _ _ ?_;clear hK K;refine done_ (done_of HT_.out (by kernel_rfl)) ?_
        try go_wp2
        (first|refine bodyPost_ret (results_none rfl _ _ _) rfl ?_|go_end0)
        exact ⟨by first|rfl|(simp;done),_,by (with_reducible repeat first|apply bkN|apply bkD|apply bkA);refine bkf ?_ (by have h_:=Kd.R_ne HO_133000.out BK132.out (by decide);intro e_;exact h_ (by rw [e_];rfl)) _;(with_reducible repeat first|apply bkN|apply bkD|apply bkA);exact BK132.out,by (with_reducible repeat first|apply bkN|apply bkD|apply bkA);refine bkf ?_ (by have h_:=Kd.R_ne HO_133000.out BK128.out (by decide);intro e_;exact h_ (by rw [e_];rfl)) _;(with_reducible repeat first|apply bkN|apply bkD|apply bkA);exact BK128.out,by (with_reducible repeat (first|apply Kd.R_alloc|apply Kd.R_drewN|apply Kd.R_drew));exact HQ52.out,by repeat (first|(with_reducible first|exact HI0.out|apply I97.alloc|apply I97.drewN|apply I97.drew|apply I97.set_1|apply I97.set_2|refine I97.far ?_ HN0_go44.out _|refine I97.far ?_ NB0_128.out _|refine I97.far ?_ NB0_132.out _)|exact HI0.out),by repeat (first|(with_reducible first|exact HB.out|apply bal|apply pdN|apply bdr|refine bst ?_ (Nat.le_trans HL.out GB44.out)|refine bst ?_ (I97.ge HI0.out)|refine bst ?_ GE128.out|refine bst ?_ GE132.out)|exact HB.out),by repeat (first|(with_reducible first|exact HK.out|apply KeepBut.set_|apply kpN|apply kpD|apply kpA|refine kpF ?_ GB44.out _|refine kpF ?_ GW128.out _|refine kpF ?_ GW132.out _)|exact HK.out)⟩
       ·rw [if_neg c43] at H
        exact absurd H (by simp)
      ·rw [if_neg c42] at H
       exact absurd H (by simp)
     ·rw [if_neg c40] at H
      have c40b0:(t139==1)=false:=beq_eq_false_iff_ne.mpr c40;have c40b1:(t139 != 1)=true:=bne_iff_ne.mpr c40
      by_cases c53:t139=2
      ·rw [if_pos c53] at H
       have c53b0:(t139==2)=true:=beq_iff_eq.mpr c53;have c53b1:(t139 != 2)=false:=bne_eq_false_iff_eq.mpr c53;clear c53
       by_cases c54:0≤t136
       ·rw [if_pos c54] at H
        have c54b0:decide (0≤t136)=true:=decide_eq_true c54;clear c54
        by_cases c55:t136 < (t129.length:Int)
        ·rw [if_pos c55] at H
         have c55b0:decide (t136 < (t129.length:Int))=true:=decide_eq_true c55;clear c55;replace H:=Option.bind_eq_some_iff.mp H;obtain ⟨⟨t151,t152,t153⟩,A560,H⟩:=H
         replace H:(some ((t129.set (t136:Int).toNat (⟨(rT t129 t136).f0,(rT t129 t136).f1,wrap64 (((rT t129 t136).f2)+(wrap64 (t151 - 1)))⟩:S75)),t152,t153))=some (r1,r2,r3):=H
         have A56:=A0_.mk A560;clear A560;obtain ⟨y154,hy154⟩:∃ y_:List (S75),y_=(t129.set (t136:Int).toNat (⟨(rT t129 t136).f0,(rT t129 t136).f1,wrap64 (((rT t129 t136).f2)+(wrap64 (t151 - 1)))⟩:S75)):=⟨_,rfl⟩
         replace H:(some (y154,t152,t153))=some (r1,r2,r3):=by first|(rw [hy154];with_reducible exact H)|(have H2_:=(Option.bind_some _ _).symm.trans H;rw [hy154];with_reducible exact H2_)|(have H2_:=(Option.bind_some _ _).symm.trans H;with_reducible exact H2_)|with_reducible exact H|(rw [hy154];exact H)|exact H
         have Ny154:=A0_.mk hy154;clear hy154;simp only [Option.some.injEq,Prod.mk.injEq] at H;obtain ⟨rfl,rfl,rfl⟩:=H;have hnb58:=NB132_128.out;have hnc58:=NB128_132.out;have hnb59:=NB132_0.out;have hnc59:=NB0_132.out;have hcz60_0:wc.cell? ⟨gb132,0,none⟩=some (.slice Ao10 t129.length co10):=(bkC BK132.out 0).trans rfl
         have hfz60_0:=bkF BK132.out 0
         try go_wp2_with (first|((with_reducible refine gtC (f:=69) rfl ?_);refine goesL_ (some 25) rfl rfl Try.func69 (by kernel_rfl) rfl #[.pointer (some ⟨g,0,none⟩),.int .i64 (t129.length:Int)] rfl (by (try simp only [List.map_toArray,List.map_cons,List.map_nil]);first|done|rfl|(simp only [List.length_drop,List.length_take];rfl)) ?_;(with_reducible refine (c6_pick.calls g s0_0 x1001_3 x1002_3 (t129.length:Int) t136 t137 t138 w0 _ ?side1 ?side2 A25.out).mono ?_);(case side1=>repeat (first|(with_reducible first|exact HI0.out|apply I97.alloc|apply I97.drewN|apply I97.drew|apply I97.set_1|apply I97.set_2|refine I97.far ?_ NB0_128.out _|refine I97.far ?_ NB0_132.out _)|exact HI0.out));(case side2=>repeat (first|(with_reducible first|exact HB.out|apply bal|apply pdN|apply bdr|refine bst ?_ (I97.ge HI0.out)|refine bst ?_ GE128.out|refine bst ?_ GE132.out)|exact HB.out));rintro e w61 ⟨rfl,hi,hb,hk⟩;refine ⟨_,rfl,?_⟩;have n0_:=A0_.mk (Kd.R_mono (Kd.R_keep (I97.apart (show I97 w0 _ g s0_0 x1001_3 x1002_3 from by repeat (first|(with_reducible first|exact HI0.out|apply I97.alloc|apply I97.drewN|apply I97.drew|apply I97.set_1|apply I97.set_2|refine I97.far ?_ NB0_128.out _|refine I97.far ?_ NB0_132.out _)|exact HI0.out)) (by (with_reducible repeat (first|apply Kd.R_alloc|apply Kd.R_drewN|apply Kd.R_drew));exact HO_133000.out) (by decide)) hk (fun _ h=>h.2)) (fun _ h=>h.1));have n1_:=A0_.mk (KeepBut.blk hk (g':=gb128) (o:=.cells #[.slice A1_0 l1_0.length c1_0] 36 (0,0)) (by (with_reducible repeat first|apply bkN|apply bkD|apply bkA);exact BK128.out) NB128_0.out (by simp));have n2_:=A0_.mk (KeepBut.blk hk (g':=gb132) (o:=.cells #[.slice Ao10 t129.length co10] 36 (0,0)) (by (with_reducible repeat first|apply bkN|apply bkD|apply bkA);exact BK132.out) NB132_0.out (by simp));have n3_:=A0_.mk (KeepBut.trans (by repeat (first|(with_reducible first|exact HK.out|apply KeepBut.set_|apply kpN|apply kpD|apply kpA|refine kpF ?_ GW128.out _|refine kpF ?_ GW132.out _)|exact HK.out)) hk (.inl rfl));have n4_:=A0_.mk (hb);have n5_:=A0_.mk (hi);clear HO_133000;clear BK128;clear BK132;clear HK;clear HB;clear HI0;have HO_133000:=n0_;have BK128:=n1_;have BK132:=n2_;have HK:=n3_;have HB:=n4_;have HI0:=n5_;clear n0_ n1_ n2_ n3_ n4_ n5_;(try clear hb);(try clear hb2);(try clear hk);(try clear hi))|((with_reducible refine gtC (f:=69) rfl ?_);refine goesL_ (some 27) rfl rfl Try.func69 (by kernel_rfl) rfl #[.pointer (some ⟨g,0,none⟩),.int .i64 4] rfl (by (try simp only [List.map_toArray,List.map_cons,List.map_nil]);first|done|rfl|(simp only [List.length_drop,List.length_take];rfl)) ?_;(with_reducible refine (c6_pick.calls g s0_0 t137 t138 4 t139 t140 t141 w0 _ ?side1 ?side2 A26.out).mono ?_);(case side1=>repeat (first|(with_reducible first|exact HI0.out|apply I97.alloc|apply I97.drewN|apply I97.drew|apply I97.set_1|apply I97.set_2|refine I97.far ?_ NB0_128.out _|refine I97.far ?_ NB0_132.out _)|exact HI0.out));(case side2=>repeat (first|(with_reducible first|exact HB.out|apply bal|apply pdN|apply bdr|refine bst ?_ (I97.ge HI0.out)|refine bst ?_ GE128.out|refine bst ?_ GE132.out)|exact HB.out));rintro e w62 ⟨rfl,hi,hb,hk⟩;refine ⟨_,rfl,?_⟩;have n0_:=A0_.mk (Kd.R_mono (Kd.R_keep (I97.apart (show I97 w0 _ g s0_0 t137 t138 from by repeat (first|(with_reducible first|exact HI0.out|apply I97.alloc|apply I97.drewN|apply I97.drew|apply I97.set_1|apply I97.set_2|refine I97.far ?_ NB0_128.out _|refine I97.far ?_ NB0_132.out _)|exact HI0.out)) (by (with_reducible repeat (first|apply Kd.R_alloc|apply Kd.R_drewN|apply Kd.R_drew));exact HO_133000.out) (by decide)) hk (fun _ h=>h.2)) (fun _ h=>h.1));have n1_:=A0_.mk (KeepBut.blk hk (g':=gb128) (o:=.cells #[.slice A1_0 l1_0.length c1_0] 36 (0,0)) (by (with_reducible repeat first|apply bkN|apply bkD|apply bkA);exact BK128.out) NB128_0.out (by simp));have n2_:=A0_.mk (KeepBut.blk hk (g':=gb132) (o:=.cells #[.slice Ao10 t129.length co10] 36 (0,0)) (by (with_reducible repeat first|apply bkN|apply bkD|apply bkA);exact BK132.out) NB132_0.out (by simp));have n3_:=A0_.mk (KeepBut.trans (by repeat (first|(with_reducible first|exact HK.out|apply KeepBut.set_|apply kpN|apply kpD|apply kpA|refine kpF ?_ GW128.out _|refine kpF ?_ GW132.out _)|exact HK.out)) hk (.inl rfl));have n4_:=A0_.mk (hb);have n5_:=A0_.mk (hi);clear HO_133000;clear BK128;clear BK132;clear HK;clear HB;clear HI0;have HO_133000:=n0_;have BK128:=n1_;have BK132:=n2_;have HK:=n3_;have HB:=n4_;have HI0:=n5_;clear n0_ n1_ n2_ n3_ n4_ n5_;(try clear hb);(try clear hb2);(try clear hk);(try clear hi)))
         have n0_:=A0_.mk (Kd.R_drew HO_133000.out);have n1_:=A0_.mk (bkD BK128.out);have n2_:=A0_.mk (bkD BK132.out);have n3_:=A0_.mk (I97.drew HI0.out);have n4_:=A0_.mk (kpD HK.out);have n5_:=A0_.mk (bdr HB.out);clear HO_133000;clear BK128;clear BK132;clear HI0;clear HK;clear HB;have HO_133000:=n0_;have BK128:=n1_;have BK132:=n2_;have HI0:=n3_;have HK:=n4_;have HB:=n5_;clear n0_ n1_ n2_ n3_ n4_ n5_;have p150:0≤(t136:Int):=of_decide_eq_true (by first|(with_reducible assumption)|assumption)
         have q150:t136 < (t129.length:Int):=of_decide_eq_true (by first|(with_reducible assumption)|assumption);obtain ⟨ad150,e150,hx150_0,hx150_1,hx150_2⟩:=at_T75 (Kd.R_reads' HO_133000.out).2.2 t136 p150 q150;cases e150;replace p150:=eq_true p150;replace q150:=eq_true q150;refine start_ (n:=15) (S:=fun w'=>w'.cell? ⟨gb132,0,none⟩=some (.slice (some ad150) t129.length co10)∧w'.cell? (ad150.add ((t136).toNat * 3))=some (.int .i64 ((rT t129 t136).f0))∧w'.cell? ⟨(ad150.add ((t136).toNat * 3)).block,(ad150.add ((t136).toNat * 3)).off+1,none⟩=some (.string ((rT t129 t136).f1))∧w'.cell? ⟨(ad150.add ((t136).toNat * 3)).block,(ad150.add ((t136).toNat * 3)).off+2,none⟩=some (.int .i64 ((rT t129 t136).f2))) (ds:=[14]) #[n_,n_,n_,n_,n_,n_,n_,n_,n_,n_,n_,n_,n_,n_,n_] (by kernel_rfl) rfl rfl ⟨(bkC BK132.out 0).trans rfl,hx150_0,hx150_1,hx150_2⟩ (fun hHeld=>?_);refine with_tabW c6_spoilforest.tab10 c6_spoilforest.bits10 (fun HT_ HW_=>?_)
         generalize w62.drew=w63 at HO_133000 BK128 BK132 HI0 HK HB hx150_0 hx150_1 hx150_2 hHeld ⊢
         refine pure_ (i:=0) (N:=some 75) (v:=?_) (a':=?_) #[y_,n_,n_,n_,n_,n_,n_,n_,n_,n_,n_,n_,n_,n_,n_] rfl rfl (any_of HT_.out (by kernel_rfl)) (fun _ _ _ h=>h) (Or.inl ⟨by rfl,?_⟩) ?_ ?_;rotate_left
         ·intro w'
          go_simp;with_reducible rfl
         rotate_left
         ·simp only [Act.put,List.setIfInBounds_toArray,List.set_cons_zero,List.set_cons_succ,i64_w,i32_w]
          rfl
         refine pure_ (i:=1) (N:=some 76) (v:=?_) (a':=?_) #[y_,y_,n_,n_,n_,n_,n_,n_,n_,n_,n_,n_,n_,n_,n_] rfl rfl (any_of HT_.out (by kernel_rfl)) (fun _ _ _ h=>h) (Or.inl ⟨by rfl,?_⟩) ?_ ?_;rotate_left
         ·intro w'
          go_simp;with_reducible rfl
         rotate_left
         ·simp only [Act.put,List.setIfInBounds_toArray,List.set_cons_zero,List.set_cons_succ,i64_w,i32_w]
          rfl
         refine pure_ (i:=2) (N:=some 77) (v:=?_) (a':=?_) #[y_,y_,y_,n_,n_,n_,n_,n_,n_,n_,n_,n_,n_,n_,n_] rfl rfl (any_of HT_.out (by kernel_rfl)) (fun _ _ _ h=>h) (Or.inl ⟨by rfl,?_⟩) ?_ ?_;rotate_left
         ·intro w'
          go_simp;with_reducible rfl
         rotate_left
         ·simp only [Act.put,List.setIfInBounds_toArray,List.set_cons_zero,List.set_cons_succ,i64_w,i32_w]
          rfl
         refine pure_ (i:=4) (N:=some 79) (v:=?_) (a':=?_) #[y_,y_,y_,n_,y_,n_,n_,n_,n_,n_,n_,n_,n_,n_,n_] rfl rfl (any_of HT_.out (by kernel_rfl)) (fun _ _ _ h=>h) (Or.inl ⟨by rfl,?_⟩) ?_ ?_;rotate_left
         ·intro w'
          go_simp;with_reducible rfl
         rotate_left
         ·simp only [Act.put,List.setIfInBounds_toArray,List.set_cons_zero,List.set_cons_succ,i64_w,i32_w]
          rfl
         refine pure_ (i:=8) (N:=some 83) (v:=?_) (a':=?_) #[y_,y_,y_,n_,y_,n_,n_,n_,y_,n_,n_,n_,n_,n_,n_] rfl rfl (any_of HT_.out (by kernel_rfl)) (fun _ _ _ h=>h) (Or.inl ⟨by rfl,?_⟩) ?_ ?_;rotate_left
         ·intro w'
          go_simp;with_reducible rfl
         rotate_left
         ·simp only [Act.put,List.setIfInBounds_toArray,List.set_cons_zero,List.set_cons_succ,i64_w,i32_w]
          rfl
         refine take_ (i:=3) (N:=some 78) (v:=?_) (a':=?_) #[y_,y_,y_,y_,y_,n_,n_,n_,y_,n_,n_,n_,n_,n_,n_] rfl rfl (take_ofW HT_.out HW_.out (by kernel_rfl)) (fun _ _ _ h=>h) (Or.inl ⟨by rfl,?_⟩) hHeld ?_ ?_;rotate_left
         ·rintro w' ⟨s0,s1,s2,s3⟩
          go_simp;with_reducible rfl
         rotate_left
         ·simp only [Act.put,List.setIfInBounds_toArray,List.set_cons_zero,List.set_cons_succ,i64_w,i32_w]
          rfl
         refine pure_ (i:=5) (N:=some 80) (v:=?_) (a':=?_) #[y_,y_,y_,y_,y_,y_,n_,n_,y_,n_,n_,n_,n_,n_,n_] rfl rfl (any_of HT_.out (by kernel_rfl)) (fun _ _ _ h=>h) (Or.inl ⟨by rfl,?_⟩) ?_ ?_;rotate_left
         ·intro w'
          go_simp;with_reducible rfl
         rotate_left
         ·simp only [Act.put,List.setIfInBounds_toArray,List.set_cons_zero,List.set_cons_succ,i64_w,i32_w]
          rfl
         refine pure_ (i:=6) (N:=some 81) (v:=?_) (a':=?_) #[y_,y_,y_,y_,y_,y_,y_,n_,y_,n_,n_,n_,n_,n_,n_] rfl rfl (any_of HT_.out (by kernel_rfl)) (fun _ _ _ h=>h) (Or.inl ⟨by rfl,?_⟩) ?_ ?_;rotate_left
         ·intro w'
          go_simp;with_reducible rfl
         rotate_left
         ·simp only [Act.put,List.setIfInBounds_toArray,List.set_cons_zero,List.set_cons_succ,i64_w,i32_w]
          rfl
         refine take_ (i:=7) (N:=some 82) (v:=?_) (a':=?_) #[y_,y_,y_,y_,y_,y_,y_,y_,y_,n_,n_,n_,n_,n_,n_] rfl rfl (take_ofW HT_.out HW_.out (by kernel_rfl)) (fun _ _ _ h=>h) (Or.inl ⟨by rfl,?_⟩) hHeld ?_ ?_;rotate_left
         ·rintro w' ⟨s0,s1,s2,s3⟩
          go_simp;with_reducible rfl
         rotate_left
         ·simp only [Act.put,List.setIfInBounds_toArray,List.set_cons_zero,List.set_cons_succ,i64_w,i32_w]
          rfl
         refine one_ (i:=9) (N:=some 84) #[y_,y_,y_,y_,y_,y_,y_,y_,y_,y_,n_,n_,n_,n_,n_] rfl rfl (one_of HT_.out (by kernel_rfl)) (by decide) (fun K hK=>?_);refine goes_ Try.func69 (by kernel_rfl) rfl #[.pointer (some ⟨g,0,none⟩),.int .i64 3] (by rfl) rfl rfl (by (try simp only [List.map_toArray,List.map_cons,List.map_nil]);first|done|rfl|(simp only [List.length_drop,List.length_take];rfl)) ?_
         with_reducible refine (c6_pick.calls g s0_0 t140 t141 3 t151 t152 t153 w0 _ ?side1 ?side2 A56.out).mono ?_
         (case side1=>repeat (first|(with_reducible first|exact HI0.out|apply I97.alloc|apply I97.drewN|apply I97.drew|apply I97.set_1|apply I97.set_2|refine I97.far ?_ NB0_128.out _|refine I97.far ?_ NB0_132.out _)|exact HI0.out))
         (case side2=>repeat (first|(with_reducible first|exact HB.out|apply bal|apply pdN|apply bdr|refine bst ?_ (I97.ge HI0.out)|refine bst ?_ GE128.out|refine bst ?_ GE132.out)|exact HB.out))
         rintro e w64 ⟨rfl,hi,hb,hk⟩
         have HS1_:=keep_cell hk (hHeld.2.1) (by first|(rw [add_block];exact Kd.own_blk (I97.own_ne HI0.out HO_133000.out (by decide)))|(show (Addr.add _ _).block≠_;rw [add_block];exact Kd.own_blk (I97.own_ne HI0.out HO_133000.out (by decide)))|exact Kd.own_blk (I97.own_ne HI0.out HO_133000.out (by decide)));have HS2_:=keep_cell hk (hHeld.2.2.1) (by first|(rw [add_block];exact Kd.own_blk (I97.own_ne HI0.out HO_133000.out (by decide)))|(show (Addr.add _ _).block≠_;rw [add_block];exact Kd.own_blk (I97.own_ne HI0.out HO_133000.out (by decide)))|exact Kd.own_blk (I97.own_ne HI0.out HO_133000.out (by decide)));have HS3_:=keep_cell hk (hHeld.2.2.2) (by first|(rw [add_block];exact Kd.own_blk (I97.own_ne HI0.out HO_133000.out (by decide)))|(show (Addr.add _ _).block≠_;rw [add_block];exact Kd.own_blk (I97.own_ne HI0.out HO_133000.out (by decide)))|exact Kd.own_blk (I97.own_ne HI0.out HO_133000.out (by decide)));refine ⟨_,rfl,?_⟩;have n0_:=A0_.mk (Kd.R_mono (Kd.R_keep (I97.apart (show I97 w0 _ g s0_0 t140 t141 from by repeat (first|(with_reducible first|exact HI0.out|apply I97.alloc|apply I97.drewN|apply I97.drew|apply I97.set_1|apply I97.set_2|refine I97.far ?_ NB0_128.out _|refine I97.far ?_ NB0_132.out _)|exact HI0.out)) (by (with_reducible repeat (first|apply Kd.R_alloc|apply Kd.R_drewN|apply Kd.R_drew));exact HO_133000.out) (by decide)) hk (fun _ h=>h.2)) (fun _ h=>h.1));have n1_:=A0_.mk (KeepBut.blk hk (g':=gb128) (o:=.cells #[.slice A1_0 l1_0.length c1_0] 36 (0,0)) (by (with_reducible repeat first|apply bkN|apply bkD|apply bkA);exact BK128.out) NB128_0.out (by simp));have n2_:=A0_.mk (KeepBut.blk hk (g':=gb132) (o:=.cells #[.slice (some ad150) t129.length co10] 36 (0,0)) (by (with_reducible repeat first|apply bkN|apply bkD|apply bkA);exact BK132.out) NB132_0.out (by simp));have n3_:=A0_.mk (KeepBut.trans (by repeat (first|(with_reducible first|exact HK.out|apply KeepBut.set_|apply kpN|apply kpD|apply kpA|refine kpF ?_ GW128.out _|refine kpF ?_ GW132.out _)|exact HK.out)) hk (.inl rfl));have n4_:=A0_.mk (hb);have n5_:=A0_.mk (hi);clear HO_133000;clear BK128;clear BK132;clear HK;clear HB;clear HI0;have HO_133000:=n0_;have BK128:=n1_;have BK132:=n2_;have HK:=n3_;have HB:=n4_;have HI0:=n5_;clear n0_ n1_ n2_ n3_ n4_ n5_;(try clear hb);(try clear hb2);(try clear hk);(try clear hi);have p57:0≤(t136:Int):=of_decide_eq_true (by first|(with_reducible assumption)|assumption)
         have q57:(t136:Int) < ((t129.length:Int):Int):=of_decide_eq_true (by first|(with_reducible assumption)|assumption)
         obtain ⟨go57,co57,eo57,gb57,gl57,cl57,HG57⟩:=Kd.R_form HO_133000.out (by omega)
         (first|cases eo57|(injection eo57 with ea_ en_ ec_;(first|subst ea_|(injection ea_ with ea_;subst ea_));subst ec_;clear en_))
         have GB57:=A0_.mk gb57;have GG57:=A0_.mk HG57;clear gb57 gl57 HG57
         (first|simp only [add_plain] at hx150_0|skip)
         (first|simp only [add_plain] at hx150_1|skip)
         (first|simp only [add_plain] at hx150_2|skip)
         obtain ⟨ce57,hcl57,hM57,hcc57,hfr57⟩:=Kd.R_elem HO_133000.out z75 (t136:Int) p57 q57
         obtain rfl:=k75_openM hM57
         have hx57_0:World.cell? _ ⟨go57,(t136:Int).toNat * 3,none⟩=some (.int .i64 ((rT t129 t136).f0)):=hcc57 0 _ rfl
         have hx57_1:World.cell? _ ⟨go57,(t136:Int).toNat * 3+1,none⟩=some (.string ((rT t129 t136).f1)):=hcc57 1 _ rfl
         have hx57_2:World.cell? _ ⟨go57,(t136:Int).toNat * 3+2,none⟩=some (.int .i64 ((rT t129 t136).f2)):=hcc57 2 _ rfl
         have hf57_0:World.frozen? _ ⟨go57,(t136:Int).toNat * 3,none⟩=false:=hfr57 0
         have hf57_1:World.frozen? _ ⟨go57,(t136:Int).toNat * 3+1,none⟩=false:=hfr57 1
         have hf57_2:World.frozen? _ ⟨go57,(t136:Int).toNat * 3+2,none⟩=false:=hfr57 2
         clear hcl57 hcc57 hfr57 hM57;replace p57:=eq_true p57;replace q57:=eq_true q57;have HN0_go57:=A0_.mk (show g≠go57 from by have h_:=I97.own_ne HI0.out HO_133000.out (by decide);intro e_;exact h_ (by rw [e_];rfl));obtain ⟨ce65,hcl65,hM65,hcc65,hfr65⟩:=Kd.R_elem HO_133000.out z75 (t136:Int) (of_decide_eq_true (by first|(with_reducible assumption)|assumption)) (by have h_:(t136:Int) < ((t129.length:Int):Int):=of_decide_eq_true (by first|(with_reducible assumption)|assumption);first|exact h_|(have e_:=(Kd.R_reads' HO_133000.out).1;omega)|simpa using h_)
         obtain rfl:=k75_openM hM65
         have HP65:=(Kd.R_seg HO_133000.out (t136:Int) (of_decide_eq_true (by first|(with_reducible assumption)|assumption)) (by have h_:(t136:Int) < ((t129.length:Int):Int):=of_decide_eq_true (by first|(with_reducible assumption)|assumption);first|exact h_|(have e_:=(Kd.R_reads' HO_133000.out).1;omega)|simpa using h_) (seg:=[.int .i64 (wrap64 (((rT t129 t136).f2)+(wrap64 (t151 - 1))))]) (j:=2) hcl65 hcc65 (show 3≤3 from by decide) (x':=(⟨(rT t129 t136).f0,(rT t129 t136).f1,wrap64 (((rT t129 t136).f2)+(wrap64 (t151 - 1)))⟩:S75)) (k75_mkM _ _ _ (⟨(rT t129 t136).f0,(rT t129 t136).f1,wrap64 (((rT t129 t136).f2)+(wrap64 (t151 - 1)))⟩:S75) ) (fun _ hk=>hk)).1;rw [← Ny154.out] at HP65;have HQ65:=A0_.mk HP65;clear hcl65 hcc65 hfr65 hM65 HP65;refine hK.out _ _ ⟨(bkC BK132.out 0).trans rfl,HS1_,HS2_,HS3_⟩ (fun hHeld=>?_);clear hK K;refine norm_ (a':=?_) ?_ ?_;rotate_left
         ·show Act.put _ (some 84) _=_
          simp only [Act.put,List.setIfInBounds_toArray,List.set_cons_zero,List.set_cons_succ,i64_w,i32_w];rfl
         refine pure_ (i:=10) (N:=some 85) (v:=?_) (a':=?_) #[y_,y_,y_,y_,y_,y_,y_,y_,y_,y_,y_,n_,n_,n_,n_] rfl rfl (any_of HT_.out (by kernel_rfl)) (fun _ _ _ h=>h) (Or.inl ⟨by rfl,?_⟩) ?_ ?_;rotate_left
         ·intro w'
          go_simp;with_reducible rfl
         rotate_left
         ·simp only [Act.put,List.setIfInBounds_toArray,List.set_cons_zero,List.set_cons_succ,i64_w,i32_w]
          rfl
         refine pure_ (i:=11) (N:=some 86) (v:=?_) (a':=?_) #[y_,y_,y_,y_,y_,y_,y_,y_,y_,y_,y_,y_,n_,n_,n_] rfl rfl (any_of HT_.out (by kernel_rfl)) (fun _ _ _ h=>h) (Or.inl ⟨by rfl,?_⟩) ?_ ?_;rotate_left
         ·intro w'
          go_simp;with_reducible rfl
         rotate_left
         ·simp only [Act.put,List.setIfInBounds_toArray,List.set_cons_zero,List.set_cons_succ,i64_w,i32_w]
          rfl
         refine pure_ (i:=12) (N:=some 87) (v:=?_) (a':=?_) #[y_,y_,y_,y_,y_,y_,y_,y_,y_,y_,y_,y_,y_,n_,n_] rfl rfl (any_of HT_.out (by kernel_rfl)) (fun _ _ _ h=>h) (Or.inl ⟨by rfl,?_⟩) ?_ ?_;rotate_left
         ·intro w'
          go_simp;with_reducible rfl
         rotate_left
         ·simp only [Act.put,List.setIfInBounds_toArray,List.set_cons_zero,List.set_cons_succ,i64_w,i32_w]
          rfl
         refine pure_ (i:=13) (N:=some 88) (v:=?_) (a':=?_) #[y_,y_,y_,y_,y_,y_,y_,y_,y_,y_,y_,y_,y_,y_,n_] rfl rfl (any_of HT_.out (by kernel_rfl)) (fun _ _ _ h=>h) (Or.inl ⟨by rfl,?_⟩) ?_ ?_;rotate_left
         ·intro w'
          go_simp;with_reducible rfl
         rotate_left
         ·simp only [Act.put,List.setIfInBounds_toArray,List.set_cons_zero,List.set_cons_succ,i64_w,i32_w]
          rfl
         refine last_ (i:=14) (N:=none) #[y_,y_,y_,y_,y_,y_,y_,y_,y_,y_,y_,y_,y_,y_,y_] rfl rfl (one_of HT_.out (by kernel_rfl)) (by decide) (fun K hK=>?_);refine skip_ (w1:=?_) (by rfl) rfl ?_ ?_;rotate_left
         ·go_simp
          rfl
         refine hK.out _ _ ?_;clear hK K;refine done_ (done_of HT_.out (by kernel_rfl)) ?_
         try go_wp2
         (first|refine bodyPost_ret (results_none rfl _ _ _) rfl ?_|go_end0)
         exact ⟨by first|rfl|(simp;done),_,by (with_reducible repeat first|apply bkN|apply bkD|apply bkA);refine bkf ?_ (by have h_:=Kd.R_ne HO_133000.out BK132.out (by decide);intro e_;exact h_ (by rw [e_];rfl)) _;(with_reducible repeat first|apply bkN|apply bkD|apply bkA);exact BK132.out,by (with_reducible repeat first|apply bkN|apply bkD|apply bkA);refine bkf ?_ (by have h_:=Kd.R_ne HO_133000.out BK128.out (by decide);intro e_;exact h_ (by rw [e_];rfl)) _;(with_reducible repeat first|apply bkN|apply bkD|apply bkA);exact BK128.out,by (with_reducible repeat (first|apply Kd.R_alloc|apply Kd.R_drewN|apply Kd.R_drew));exact HQ65.out,by repeat (first|(with_reducible first|exact HI0.out|apply I97.alloc|apply I97.drewN|apply I97.drew|apply I97.set_1|apply I97.set_2|refine I97.far ?_ HN0_go57.out _|refine I97.far ?_ NB0_128.out _|refine I97.far ?_ NB0_132.out _)|exact HI0.out),by repeat (first|(with_reducible first|exact HB.out|apply bal|apply pdN|apply bdr|refine bst ?_ (Nat.le_trans HL.out GB57.out)|refine bst ?_ (I97.ge HI0.out)|refine bst ?_ GE128.out|refine bst ?_ GE132.out)|exact HB.out),by repeat (first|(with_reducible first|exact HK.out|apply KeepBut.set_|apply kpN|apply kpD|apply kpA|refine kpF ?_ GB57.out _|refine kpF ?_ GW128.out _|refine kpF ?_ GW132.out _)|exact HK.out)⟩
        ·rw [if_neg c55] at H
         exact absurd H (by simp)
       ·rw [if_neg c54] at H
        exact absurd H (by simp)
      ·rw [if_neg c53] at H
       have c53b0:(t139==2)=false:=beq_eq_false_iff_ne.mpr c53;have c53b1:(t139 != 2)=true:=bne_iff_ne.mpr c53
       by_cases c66:0≤t136
       ·rw [if_pos c66] at H
        have c66b0:decide (0≤t136)=true:=decide_eq_true c66;clear c66
        by_cases c67:t136 < (t129.length:Int)
        ·rw [if_pos c67] at H
         have c67b0:decide (t136 < (t129.length:Int))=true:=decide_eq_true c67;clear c67
         by_cases c68:t129.length < 4398046511104
         ·rw [if_pos c68] at H
          have LMc68:=A0_.mk c68;clear c68;obtain ⟨y156,hy156⟩:∃ y_:List (S75),y_=(t129++[(⟨(rT t129 t136).f0,(rT t129 t136).f1,(rT t129 t136).f2⟩:S75)]):=⟨_,rfl⟩
          replace H:(some (y156,t140,t141))=some (r1,r2,r3):=by first|(rw [hy156];with_reducible exact H)|(have H2_:=(Option.bind_some _ _).symm.trans H;rw [hy156];with_reducible exact H2_)|(have H2_:=(Option.bind_some _ _).symm.trans H;with_reducible exact H2_)|with_reducible exact H|(rw [hy156];exact H)|exact H
          have Ny156:=A0_.mk hy156;clear hy156;simp only [Option.some.injEq,Prod.mk.injEq] at H;obtain ⟨rfl,rfl,rfl⟩:=H;have hnb69:=NB132_128.out;have hnc69:=NB128_132.out;have hnb70:=NB132_0.out;have hnc70:=NB0_132.out;have hcz71_0:wc.cell? ⟨gb132,0,none⟩=some (.slice Ao10 t129.length co10):=(bkC BK132.out 0).trans rfl
          have hfz71_0:=bkF BK132.out 0
          try go_wp2_with (first|((with_reducible refine gtC (f:=69) rfl ?_);refine goesL_ (some 25) rfl rfl Try.func69 (by kernel_rfl) rfl #[.pointer (some ⟨g,0,none⟩),.int .i64 (t129.length:Int)] rfl (by (try simp only [List.map_toArray,List.map_cons,List.map_nil]);first|done|rfl|(simp only [List.length_drop,List.length_take];rfl)) ?_;(with_reducible refine (c6_pick.calls g s0_0 x1001_3 x1002_3 (t129.length:Int) t136 t137 t138 w0 _ ?side1 ?side2 A25.out).mono ?_);(case side1=>repeat (first|(with_reducible first|exact HI0.out|apply I97.alloc|apply I97.drewN|apply I97.drew|apply I97.set_1|apply I97.set_2|refine I97.far ?_ NB0_128.out _|refine I97.far ?_ NB0_132.out _)|exact HI0.out));(case side2=>repeat (first|(with_reducible first|exact HB.out|apply bal|apply pdN|apply bdr|refine bst ?_ (I97.ge HI0.out)|refine bst ?_ GE128.out|refine bst ?_ GE132.out)|exact HB.out));rintro e w72 ⟨rfl,hi,hb,hk⟩;refine ⟨_,rfl,?_⟩;have n0_:=A0_.mk (Kd.R_mono (Kd.R_keep (I97.apart (show I97 w0 _ g s0_0 x1001_3 x1002_3 from by repeat (first|(with_reducible first|exact HI0.out|apply I97.alloc|apply I97.drewN|apply I97.drew|apply I97.set_1|apply I97.set_2|refine I97.far ?_ NB0_128.out _|refine I97.far ?_ NB0_132.out _)|exact HI0.out)) (by (with_reducible repeat (first|apply Kd.R_alloc|apply Kd.R_drewN|apply Kd.R_drew));exact HO_133000.out) (by decide)) hk (fun _ h=>h.2)) (fun _ h=>h.1));have n1_:=A0_.mk (KeepBut.blk hk (g':=gb128) (o:=.cells #[.slice A1_0 l1_0.length c1_0] 36 (0,0)) (by (with_reducible repeat first|apply bkN|apply bkD|apply bkA);exact BK128.out) NB128_0.out (by simp));have n2_:=A0_.mk (KeepBut.blk hk (g':=gb132) (o:=.cells #[.slice Ao10 t129.length co10] 36 (0,0)) (by (with_reducible repeat first|apply bkN|apply bkD|apply bkA);exact BK132.out) NB132_0.out (by simp));have n3_:=A0_.mk (KeepBut.trans (by repeat (first|(with_reducible first|exact HK.out|apply KeepBut.set_|apply kpN|apply kpD|apply kpA|refine kpF ?_ GW128.out _|refine kpF ?_ GW132.out _)|exact HK.out)) hk (.inl rfl));have n4_:=A0_.mk (hb);have n5_:=A0_.mk (hi);clear HO_133000;clear BK128;clear BK132;clear HK;clear HB;clear HI0;have HO_133000:=n0_;have BK128:=n1_;have BK132:=n2_;have HK:=n3_;have HB:=n4_;have HI0:=n5_;clear n0_ n1_ n2_ n3_ n4_ n5_;(try clear hb);(try clear hb2);(try clear hk);(try clear hi))|((with_reducible refine gtC (f:=69) rfl ?_);refine goesL_ (some 27) rfl rfl Try.func69 (by kernel_rfl) rfl #[.pointer (some ⟨g,0,none⟩),.int .i64 4] rfl (by (try simp only [List.map_toArray,List.map_cons,List.map_nil]);first|done|rfl|(simp only [List.length_drop,List.length_take];rfl)) ?_;(with_reducible refine (c6_pick.calls g s0_0 t137 t138 4 t139 t140 t141 w0 _ ?side1 ?side2 A26.out).mono ?_);(case side1=>repeat (first|(with_reducible first|exact HI0.out|apply I97.alloc|apply I97.drewN|apply I97.drew|apply I97.set_1|apply I97.set_2|refine I97.far ?_ NB0_128.out _|refine I97.far ?_ NB0_132.out _)|exact HI0.out));(case side2=>repeat (first|(with_reducible first|exact HB.out|apply bal|apply pdN|apply bdr|refine bst ?_ (I97.ge HI0.out)|refine bst ?_ GE128.out|refine bst ?_ GE132.out)|exact HB.out));rintro e w73 ⟨rfl,hi,hb,hk⟩;refine ⟨_,rfl,?_⟩;have n0_:=A0_.mk (Kd.R_mono (Kd.R_keep (I97.apart (show I97 w0 _ g s0_0 t137 t138 from by repeat (first|(with_reducible first|exact HI0.out|apply I97.alloc|apply I97.drewN|apply I97.drew|apply I97.set_1|apply I97.set_2|refine I97.far ?_ NB0_128.out _|refine I97.far ?_ NB0_132.out _)|exact HI0.out)) (by (with_reducible repeat (first|apply Kd.R_alloc|apply Kd.R_drewN|apply Kd.R_drew));exact HO_133000.out) (by decide)) hk (fun _ h=>h.2)) (fun _ h=>h.1));have n1_:=A0_.mk (KeepBut.blk hk (g':=gb128) (o:=.cells #[.slice A1_0 l1_0.length c1_0] 36 (0,0)) (by (with_reducible repeat first|apply bkN|apply bkD|apply bkA);exact BK128.out) NB128_0.out (by simp));have n2_:=A0_.mk (KeepBut.blk hk (g':=gb132) (o:=.cells #[.slice Ao10 t129.length co10] 36 (0,0)) (by (with_reducible repeat first|apply bkN|apply bkD|apply bkA);exact BK132.out) NB132_0.out (by simp));have n3_:=A0_.mk (KeepBut.trans (by repeat (first|(with_reducible first|exact HK.out|apply KeepBut.set_|apply kpN|apply kpD|apply kpA|refine kpF ?_ GW128.out _|refine kpF ?_ GW132.out _)|exact HK.out)) hk (.inl rfl));have n4_:=A0_.mk (hb);have n5_:=A0_.mk (hi);clear HO_133000;clear BK128;clear BK132;clear HK;clear HB;clear HI0;have HO_133000:=n0_;have BK128:=n1_;have BK132:=n2_;have HK:=n3_;have HB:=n4_;have HI0:=n5_;clear n0_ n1_ n2_ n3_ n4_ n5_;(try clear hb);(try clear hb2);(try clear hk);(try clear hi)))
          have n0_:=A0_.mk (Kd.R_drew HO_133000.out);have n1_:=A0_.mk (bkD BK128.out);have n2_:=A0_.mk (bkD BK132.out);have n3_:=A0_.mk (I97.drew HI0.out);have n4_:=A0_.mk (kpD HK.out);have n5_:=A0_.mk (bdr HB.out);clear HO_133000;clear BK128;clear BK132;clear HI0;clear HK;clear HB;have HO_133000:=n0_;have BK128:=n1_;have BK132:=n2_;have HI0:=n3_;have HK:=n4_;have HB:=n5_;clear n0_ n1_ n2_ n3_ n4_ n5_;have p155:0≤(t136:Int):=of_decide_eq_true (by first|(with_reducible assumption)|assumption)
          have q155:t136 < (t129.length:Int):=of_decide_eq_true (by first|(with_reducible assumption)|assumption);obtain ⟨ad155,e155,hx155_0,hx155_1,hx155_2⟩:=at_T75 (Kd.R_reads' HO_133000.out).2.2 t136 p155 q155;cases e155;replace p155:=eq_true p155;replace q155:=eq_true q155;refine start_ (n:=17) (S:=fun w'=>w'.cell? ⟨gb132,0,none⟩=some (.slice (some ad155) t129.length co10)∧w'.cell? (ad155.add ((t136).toNat * 3))=some (.int .i64 ((rT t129 t136).f0))∧w'.cell? ⟨(ad155.add ((t136).toNat * 3)).block,(ad155.add ((t136).toNat * 3)).off+1,none⟩=some (.string ((rT t129 t136).f1))∧w'.cell? ⟨(ad155.add ((t136).toNat * 3)).block,(ad155.add ((t136).toNat * 3)).off+2,none⟩=some (.int .i64 ((rT t129 t136).f2))) (ds:=[13,16]) #[n_,n_,n_,n_,n_,n_,n_,n_,n_,n_,n_,n_,n_,n_,n_,n_,n_] (by kernel_rfl) rfl rfl ⟨(bkC BK132.out 0).trans rfl,hx155_0,hx155_1,hx155_2⟩ (fun hHeld=>?_);refine with_tabW c6_spoilforest.tab4 c6_spoilforest.bits4 (fun HT_ HW_=>?_)
          generalize w73.drew=w74 at HO_133000 BK128 BK132 HI0 HK HB hx155_0 hx155_1 hx155_2 hHeld ⊢
          refine pure_ (i:=0) (N:=some 28) (v:=?_) (a':=?_) #[y_,n_,n_,n_,n_,n_,n_,n_,n_,n_,n_,n_,n_,n_,n_,n_,n_] rfl rfl (any_of HT_.out (by kernel_rfl)) (fun _ _ _ h=>h) (Or.inl ⟨by rfl,?_⟩) ?_ ?_;rotate_left
          ·intro w'
           go_simp;with_reducible rfl
          rotate_left
          ·simp only [Act.put,List.setIfInBounds_toArray,List.set_cons_zero,List.set_cons_succ,i64_w,i32_w]
           rfl
          refine pure_ (i:=1) (N:=some 29) (v:=?_) (a':=?_) #[y_,y_,n_,n_,n_,n_,n_,n_,n_,n_,n_,n_,n_,n_,n_,n_,n_] rfl rfl (any_of HT_.out (by kernel_rfl)) (fun _ _ _ h=>h) (Or.inl ⟨by rfl,?_⟩) ?_ ?_;rotate_left
          ·intro w'
           go_simp;with_reducible rfl
          rotate_left
          ·simp only [Act.put,List.setIfInBounds_toArray,List.set_cons_zero,List.set_cons_succ,i64_w,i32_w]
           rfl
          refine pure_ (i:=2) (N:=some 30) (v:=?_) (a':=?_) #[y_,y_,y_,n_,n_,n_,n_,n_,n_,n_,n_,n_,n_,n_,n_,n_,n_] rfl rfl (any_of HT_.out (by kernel_rfl)) (fun _ _ _ h=>h) (Or.inl ⟨by rfl,?_⟩) ?_ ?_;rotate_left
          ·intro w'
           go_simp;with_reducible rfl
          rotate_left
          ·simp only [Act.put,List.setIfInBounds_toArray,List.set_cons_zero,List.set_cons_succ,i64_w,i32_w]
           rfl
          refine pure_ (i:=3) (N:=some 31) (v:=?_) (a':=?_) #[y_,y_,y_,y_,n_,n_,n_,n_,n_,n_,n_,n_,n_,n_,n_,n_,n_] rfl rfl (any_of HT_.out (by kernel_rfl)) (fun _ _ _ h=>h) (Or.inl ⟨by rfl,?_⟩) ?_ ?_;rotate_left
          ·intro w'
           go_simp;with_reducible rfl
          rotate_left
          ·simp only [Act.put,List.setIfInBounds_toArray,List.set_cons_zero,List.set_cons_succ,i64_w,i32_w]
           rfl
          refine pure_ (i:=5) (N:=some 33) (v:=?_) (a':=?_) #[y_,y_,y_,y_,n_,y_,n_,n_,n_,n_,n_,n_,n_,n_,n_,n_,n_] rfl rfl (any_of HT_.out (by kernel_rfl)) (fun _ _ _ h=>h) (Or.inl ⟨by rfl,?_⟩) ?_ ?_;rotate_left
          ·intro w'
           go_simp;with_reducible rfl
          rotate_left
          ·simp only [Act.put,List.setIfInBounds_toArray,List.set_cons_zero,List.set_cons_succ,i64_w,i32_w]
           rfl
          refine pure_ (i:=6) (N:=some 34) (v:=?_) (a':=?_) #[y_,y_,y_,y_,n_,y_,y_,n_,n_,n_,n_,n_,n_,n_,n_,n_,n_] rfl rfl (any_of HT_.out (by kernel_rfl)) (fun _ _ _ h=>h) (Or.inl ⟨by rfl,?_⟩) ?_ ?_;rotate_left
          ·intro w'
           go_simp;with_reducible rfl
          rotate_left
          ·simp only [Act.put,List.setIfInBounds_toArray,List.set_cons_zero,List.set_cons_succ,i64_w,i32_w]
           rfl
          refine pure_ (i:=7) (N:=some 35) (v:=?_) (a':=?_) #[y_,y_,y_,y_,n_,y_,y_,y_,n_,n_,n_,n_,n_,n_,n_,n_,n_] rfl rfl (any_of HT_.out (by kernel_rfl)) (fun _ _ _ h=>h) (Or.inl ⟨by rfl,?_⟩) ?_ ?_;rotate_left
          ·intro w'
           go_simp;with_reducible rfl
          rotate_left
          ·simp only [Act.put,List.setIfInBounds_toArray,List.set_cons_zero,List.set_cons_succ,i64_w,i32_w]
           rfl
          refine pure_ (i:=9) (N:=some 37) (v:=?_) (a':=?_) #[y_,y_,y_,y_,n_,y_,y_,y_,n_,y_,n_,n_,n_,n_,n_,n_,n_] rfl rfl (any_of HT_.out (by kernel_rfl)) (fun _ _ _ h=>h) (Or.inl ⟨by rfl,?_⟩) ?_ ?_;rotate_left
          ·intro w'
           go_simp;with_reducible rfl
          rotate_left
          ·simp only [Act.put,List.setIfInBounds_toArray,List.set_cons_zero,List.set_cons_succ,i64_w,i32_w]
           rfl
          refine take_ (i:=4) (N:=some 32) (v:=?_) (a':=?_) #[y_,y_,y_,y_,y_,y_,y_,y_,n_,y_,n_,n_,n_,n_,n_,n_,n_] rfl rfl (take_ofW HT_.out HW_.out (by kernel_rfl)) (fun _ _ _ h=>h) (Or.inl ⟨by rfl,?_⟩) hHeld ?_ ?_;rotate_left
          ·rintro w' ⟨s0,s1,s2,s3⟩
           go_simp;with_reducible rfl
          rotate_left
          ·simp only [Act.put,List.setIfInBounds_toArray,List.set_cons_zero,List.set_cons_succ,i64_w,i32_w]
           rfl
          refine take_ (i:=8) (N:=some 36) (v:=?_) (a':=?_) #[y_,y_,y_,y_,y_,y_,y_,y_,y_,y_,n_,n_,n_,n_,n_,n_,n_] rfl rfl (take_ofW HT_.out HW_.out (by kernel_rfl)) (fun _ _ _ h=>h) (Or.inl ⟨by rfl,?_⟩) hHeld ?_ ?_;rotate_left
          ·rintro w' ⟨s0,s1,s2,s3⟩
           go_simp;with_reducible rfl
          rotate_left
          ·simp only [Act.put,List.setIfInBounds_toArray,List.set_cons_zero,List.set_cons_succ,i64_w,i32_w]
           rfl
          refine pure_ (i:=10) (N:=some 38) (v:=?_) (a':=?_) #[y_,y_,y_,y_,y_,y_,y_,y_,y_,y_,y_,n_,n_,n_,n_,n_,n_] rfl rfl (any_of HT_.out (by kernel_rfl)) (fun _ _ _ h=>h) (Or.inl ⟨by rfl,?_⟩) ?_ ?_;rotate_left
          ·intro w'
           go_simp;with_reducible rfl
          rotate_left
          ·simp only [Act.put,List.setIfInBounds_toArray,List.set_cons_zero,List.set_cons_succ,i64_w,i32_w]
           rfl
          refine take_ (i:=11) (N:=some 39) (v:=?_) (a':=?_) #[y_,y_,y_,y_,y_,y_,y_,y_,y_,y_,y_,y_,n_,n_,n_,n_,n_] rfl rfl (take_ofW HT_.out HW_.out (by kernel_rfl)) (fun _ _ _ h=>h) (Or.inl ⟨by rfl,?_⟩) hHeld ?_ ?_;rotate_left
          ·rintro w' ⟨s0,s1,s2,s3⟩
           go_simp;with_reducible rfl
          rotate_left
          ·simp only [Act.put,List.setIfInBounds_toArray,List.set_cons_zero,List.set_cons_succ,i64_w,i32_w]
           rfl
          refine one_ (i:=12) (N:=some 40) #[y_,y_,y_,y_,y_,y_,y_,y_,y_,y_,y_,y_,y_,n_,n_,n_,n_] rfl rfl (one_of HT_.out (by kernel_rfl)) (by decide) (fun K hK=>?_);refine value_ (w1:=?_) (v:=?_) (by rfl) rfl ?_ ?_;rotate_left 2
          ·go_simp
           constructor
           ·rfl
           ·rfl
          refine hK.out _ _ ⟨(bkC (bkA BK132.out _) 0).trans rfl,(World.cell?_alloc_lt _ _ _ (World.block_lt_of_cell? _ _ (hHeld.2.1))).trans (hHeld.2.1),(World.cell?_alloc_lt _ _ _ (World.block_lt_of_cell? _ _ (hHeld.2.2.1))).trans (hHeld.2.2.1),(World.cell?_alloc_lt _ _ _ (World.block_lt_of_cell? _ _ (hHeld.2.2.2))).trans (hHeld.2.2.2)⟩ (fun hHeld=>?_);clear hK K;refine norm_ (a':=?_) ?_ ?_;rotate_left
          ·show Act.put _ (some 40) _=_
           simp only [Act.put,List.setIfInBounds_toArray,List.set_cons_zero,List.set_cons_succ,i64_w,i32_w];rfl
          refine last_ (i:=13) (N:=some 41) #[y_,y_,y_,y_,y_,y_,y_,y_,y_,y_,y_,y_,y_,y_,n_,n_,n_] rfl rfl (one_of HT_.out (by kernel_rfl)) (by decide) (fun K hK=>?_);refine Kd.R_append_step k75 wk.heap.size (by rfl) (.tmp 32) (.tmp 40) 34 75 (.agg #[(.int .i64 0),(.string ⟨#[]⟩),(.int .i64 0)]) 32 rfl Try.underlying34 info75 rfl (by decide) (by omega) (.slice (some ad155) t129.length co10) t129 (⟨(rT t129 t136).f0,(rT t129 t136).f1,(rT t129 t136).f2⟩:S75) [.int .i64 ((rT t129 t136).f0),.string ((rT t129 t136).f1),.int .i64 ((rT t129 t136).f2)] (fun _=>True) (fun _=>False) rfl rfl ?aP (fun _ hk=>hk.elim) ?aF ?aO (Below.refl _ _) ?aS ?aL ?_
          (case aP=>exact k75_mkM _ _ _ (⟨(rT t129 t136).f0,(rT t129 t136).f1,(rT t129 t136).f2⟩:S75))
          (case aF=>exact (fun _ _=>trivial))
          (case aO=>exact (by (with_reducible repeat (first|apply Kd.R_alloc|apply Kd.R_drewN|apply Kd.R_drew));exact HO_133000.out))
          (case aS=>exact (kpS (w:=wk) (g:=g) (row:=none) (by repeat (first|(with_reducible first|exact HK.out|apply KeepBut.set_|apply kpN|apply kpD|apply kpA|refine kpF ?_ GW128.out _|refine kpF ?_ GW132.out _)|exact HK.out))))
          (case aL=>have:=LMc68.out;omega)
          intro v157 w75 ho hb hg hat
          rw [← Ny156.out] at ho;have n0_:=A0_.mk (blk_grown (g:=gb128) (o:=.cells #[.slice A1_0 l1_0.length c1_0] 36 (0,0)) (by (with_reducible repeat first|apply bkN|apply bkD|apply bkA);exact BK128.out) hg (Kd.R_ne HO_133000.out BK128.out (by decide)));have n1_:=A0_.mk (blk_grown (g:=gb132) (o:=.cells #[.slice (some ad155) t129.length co10] 36 (0,0)) (by (with_reducible repeat first|apply bkN|apply bkD|apply bkA);exact BK132.out) hg (Kd.R_ne HO_133000.out BK132.out (by decide)));have n2_:=A0_.mk (I97.grown (by repeat (first|(with_reducible first|exact HI0.out|apply I97.alloc|apply I97.drewN|apply I97.drew|apply I97.set_1|apply I97.set_2|refine I97.far ?_ NB0_128.out _|refine I97.far ?_ NB0_132.out _)|exact HI0.out)) hg (I97.own_ne HI0.out HO_133000.out (by decide)));have n3_:=A0_.mk (below_weaken (by repeat (first|(with_reducible first|exact HB.out|apply bal|apply pdN|apply bdr|refine bst ?_ (I97.ge HI0.out)|refine bst ?_ GE128.out|refine bst ?_ GE132.out)|exact HB.out)) HL.out hb);have n4_:=A0_.mk (KeepBut.trans (by repeat (first|(with_reducible first|exact HK.out|apply KeepBut.set_|apply kpN|apply kpD|apply kpA|refine kpF ?_ GW128.out _|refine kpF ?_ GW132.out _)|exact HK.out)) (KeepBut.of_grown hg g) (Kd.R_base2 HO_133000.out));have n5_:=A0_.mk (ho);clear BK128;clear BK132;clear HI0;clear HB;clear HK;clear HO_133000;have BK128:=n0_;have BK132:=n1_;have HI0:=n2_;have HB:=n3_;have HK:=n4_;have HO158:=n5_;clear n0_ n1_ n2_ n3_ n4_ n5_;clear ho hb hg hat;obtain ⟨Ao76,co76,eo76⟩:=Kd.R_slice HO158.out
          (first|subst eo76|(injection eo76 with f1_ f2_ f3_;have f4_:=f1_.symm;have f5_:=f3_.symm;clear f1_ f2_ f3_;subst f4_;subst f5_))
          refine hK.out _ _ ?_;clear hK K;refine norm_ (a':=?_) ?_ ?_;rotate_left
          ·show Act.put _ (some 41) _=_
           simp only [Act.put,List.setIfInBounds_toArray,List.set_cons_zero,List.set_cons_succ,i64_w,i32_w];rfl
          refine pure_ (i:=14) (N:=some 42) (v:=?_) (a':=?_) #[y_,y_,y_,y_,y_,y_,y_,y_,y_,y_,y_,y_,y_,y_,y_,n_,n_] rfl rfl (any_of HT_.out (by kernel_rfl)) (fun _ _ _ h=>h) (Or.inl ⟨by rfl,?_⟩) ?_ ?_;rotate_left
          ·intro w'
           go_simp;with_reducible rfl
          rotate_left
          ·simp only [Act.put,List.setIfInBounds_toArray,List.set_cons_zero,List.set_cons_succ,i64_w,i32_w]
           rfl
          refine pure_ (i:=15) (N:=some 43) (v:=?_) (a':=?_) #[y_,y_,y_,y_,y_,y_,y_,y_,y_,y_,y_,y_,y_,y_,y_,y_,n_] rfl rfl (any_of HT_.out (by kernel_rfl)) (fun _ _ _ h=>h) (Or.inl ⟨by rfl,?_⟩) ?_ ?_;rotate_left
          ·intro w'
           go_simp;with_reducible rfl
          rotate_left
          ·simp only [Act.put,List.setIfInBounds_toArray,List.set_cons_zero,List.set_cons_succ,i64_w,i32_w]
           rfl
          refine last_ (i:=16) (N:=none) #[y_,y_,y_,y_,y_,y_,y_,y_,y_,y_,y_,y_,y_,y_,y_,y_,y_] rfl rfl (one_of HT_.out (by kernel_rfl)) (by decide) (fun K hK=>?_);have hs77:w75.cell? ⟨gb132,0,none⟩=some (.slice (some ad155) t129.length co10):=(bkC BK132.out 0).trans rfl
          have hfs77:=bkF BK132.out 0;have hns77_0:=NB128_132.out;have hms77_0:=NB132_128.out;refine skip_ (w1:=?_) (by rfl) rfl ?_ ?_;rotate_left
          ·go_simp
           rfl
          refine hK.out _ _ ?_;clear hK K;refine done_ (done_of HT_.out (by kernel_rfl)) ?_
          try go_wp2
          (first|refine bodyPost_ret (results_none rfl _ _ _) rfl ?_|go_end0)
          exact ⟨by first|rfl|(simp;done),_,by (with_reducible repeat first|apply bkN|apply bkD|apply bkA);refine bkP (cs:=#[.slice (some ad155) t129.length co10]) ?_ 0 _ rfl;(with_reducible repeat first|apply bkN|apply bkD|apply bkA);exact BK132.out,by (with_reducible repeat first|apply bkN|apply bkD|apply bkA);refine bkf ?_ NB128_132.out _;(with_reducible repeat first|apply bkN|apply bkD|apply bkA);exact BK128.out,by (with_reducible repeat (first|apply Kd.R_alloc|apply Kd.R_drewN|apply Kd.R_drew));exact Kd.R_mono (Kd.R_far (p:=⟨gb132,0,none⟩) (Kd.R_types HO158.out BK132.out (by decide)) (fun _ hk=>hk.2) (.slice Ao76 y156.length co76)) (fun _ hk=>trivial),by repeat (first|(with_reducible first|exact HI0.out|apply I97.alloc|apply I97.drewN|apply I97.drew|apply I97.set_1|apply I97.set_2|refine I97.far ?_ NB0_128.out _|refine I97.far ?_ NB0_132.out _)|exact HI0.out),by repeat (first|(with_reducible first|exact HB.out|apply bal|apply pdN|apply bdr|refine bst ?_ (I97.ge HI0.out)|refine bst ?_ GE128.out|refine bst ?_ GE132.out)|exact HB.out),by repeat (first|(with_reducible first|exact HK.out|apply KeepBut.set_|apply kpN|apply kpD|apply kpA|refine kpF ?_ GW128.out _|refine kpF ?_ GW132.out _)|exact HK.out)⟩
         ·rw [if_neg c68] at H
          exact absurd H (by simp)
        ·rw [if_neg c67] at H
         exact absurd H (by simp)
       ·rw [if_neg c66] at H
        exact absurd H (by simp)

end Go.Proofs.Ytclploookcjcbaa.PFr
