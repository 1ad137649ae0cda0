/- Proved: each Go function that is named below comes to the answers of the Lean function printed for it. Printed by a changed copy of the kit's print program (wip/mkpk.py), for this claim. -/
import Derived.Test.YtclploookcjcbaaPFrx0
namespace Go.Proofs.Ytclploookcjcbaa.PFr
open Go.RowKit Go.Proofs.YtclploookcjcbaaW.PrintWords Go.Proofs.YtclploookcjcbaaW.PrintLast Go.Proofs.YtclploookcjcbaaW.PrintMore
attribute [local go_sem] max2_int min2_int max_two min_two max_three min_three max_four min_four   -- for this text's walks alone
set_option linter.unusedVariables false
set_option linter.unusedSimpArgs false

/-! ### sRev: function 91 -/
def sRev.l0:Nat → List ByteArray → Int → Int → Option (List ByteArray)
 |0,_,_,_=>none
 |k+1,x0,x2,x3=>if x2 < x3 then (if 0≤x3 then (if x3 < (x0.length:Int) then (if 0≤x2 then (if x2 < (x0.length:Int) then (sRev.l0 k ((x0.set (x2:Int).toNat (rdOf ByteArray.empty x0 x3)).set (x3:Int).toNat (rdOf ByteArray.empty x0 x2)) (wrap64 (x2+1)) (wrap64 (x3 - 1))) else (none)) else (none)) else (none)) else (none)) else (some x0)
def sRev.f (k:Nat) (l0:List ByteArray):Option (List ByteArray):=sRev.l0 k l0 0 (wrap64 ((l0.length:Int) - 1))
theorem sRev.mono_l:∀ k,(∀ y0 y1 y2,LeO (sRev.l0 k y0 y1 y2) (sRev.l0 (k+1) y0 y1 y2))
 |0=>fun _ _ _ r h=>by simp [sRev.l0] at h
 |k+1=>by
  have ih0:=sRev.mono_l k
  ·intro y0 y1 y2
   unfold sRev.l0
   repeat' first
   |(with_reducible exact ih0 _ _ _)
   |(with_reducible exact LeO.refl _)
   |(with_reducible exact LeO.none _)
   |(with_reducible refine LeO.ite ?_ ?_)
   |(with_reducible refine LeO.bind ?_ (fun _=>?_))
   |exact ih0 _ _ _
   |exact LeO.none _
   |refine LeO.ite ?_ ?_
   |refine LeO.bind ?_ (fun _=>?_)
theorem sRev.mono:∀ a0 k,LeO (sRev.f k a0) (sRev.f (k+1) a0):=by
 intro a0 k
 have ih0:=sRev.mono_l k;unfold sRev.f
 repeat' first
   |(with_reducible exact ih0 _ _ _)
   |(with_reducible exact LeO.refl _)
   |(with_reducible exact LeO.none _)
   |(with_reducible refine LeO.ite ?_ ?_)
   |(with_reducible refine LeO.bind ?_ (fun _=>?_))
   |exact ih0 _ _ _
   |exact LeO.none _
   |refine LeO.ite ?_ ?_
   |refine LeO.bind ?_ (fun _=>?_)
def sRev.T3:Bool × List (List Nat × List Nat):=(true,[([],[]),([],[]),([],[]),([],[]),([],[]),([],[]),([4,5],[4,5]),([6],[6]),([],[]),([],[]),([8,9],[8,9]),([10],[10]),([0,1,0,1,4,5,6,7,11],[0,1]),([12,7,0,1,4,5,6,7,11],[7,12]),([2,3,0,1,2,3,4,5,6,7,8,9,10,11,12,13],[2,3]),([14,11,13,0,1,2,3,4,5,6,7,8,9,10,11,12,13],[11,14])])
def sRev.B3:List Nat:=[0,0,0,0,0,0,48,112,0,0,768,1792,4083,8179,16383,32767]
theorem sRev.tab3:rtab .any (opsOf Try.f91 3)=sRev.T3:=by kernel_rfl
theorem sRev.bits3:waitsOk sRev.T3.2 sRev.B3=true:=by kernel_rfl
set_option maxHeartbeats 8000000 in
set_option maxRecDepth 100000 in
theorem sRev.calls (k:Nat) (P0_:Nat → Prop) (u9000_:Value) (l0:List ByteArray) (r:List ByteArray) (w0 w:World) (hB:Below w0.heap.size w0 w) (ho0:Kd.R Kd.string 9 w w0.heap.size P0_ u9000_ l0) (h:sRev.f k l0=some r) :
  Calls Try.prog 91 #[u9000_] w fun e w'=>e=.returned (.tuple #[])∧Kd.R Kd.string 9 w' w0.heap.size (fun k_=>(P0_ k_∨w.heap.size≤k_)) u9000_ r∧Below w0.heap.size w0 w'∧Kept w w' (fun k_=>P0_ k_):=by
 have HO0:=A0_.mk (show Kd.R Kd.string 9 w w0.heap.size (fun k_=>(P0_ k_∨w.heap.size≤k_)) u9000_ l0 from Kd.R_mono ho0 (fun k_ hk=>(.inl hk)));have HK:=A0_.mk (Kept.refl w (fun k_=>P0_ k_));have HW0:=A0_.mk hB.size;have HB:=A0_.mk hB;clear hB;have H:(sRev.l0 k l0 0 (wrap64 ((l0.length:Int) - 1)))=some r:=h;clear h
 have H':=A0_.mk H
 clear H;obtain ⟨Ao2,co2,eo2⟩:=Kd.R_slice HO0.out;subst eo2
 go_enter Try.func91,Try.ntmps91
 go_wp2
 go_loopg [2,3] k (fun kq v2 v3 w'=>∃ (x0_1:List ByteArray) (x2_1:Int) (x3_1:Int),v2=.int .i64 x2_1∧v3=.int .i64 x3_1∧A0_ (sRev.l0 kq x0_1 x2_1 x3_1=some r)∧A0_ (kq≤k)∧A0_ (Kd.R Kd.string 9 w' w0.heap.size (fun k_=>(P0_ k_∨w.heap.size≤k_)) (.slice Ao2 l0.length co2) x0_1)∧A0_ (Kept w w' (fun k_=>P0_ k_))∧A0_ (Below w0.heap.size w0 w'))
 case atStart=>exact ⟨(l0),(0),(wrap64 ((l0.length:Int) - 1)),(by first|rfl|(simp;done)|(simp [*];done)),(by first|rfl|(simp;done)|(simp [*];done)),H',⟨Nat.le_refl _⟩,⟨by (with_reducible repeat (first|apply Kd.R_alloc|apply Kd.R_drewN|apply Kd.R_drew));exact HO0.out⟩,⟨by repeat (first|(with_reducible first|exact HK.out|apply Kept.alloc|apply Kept.drewN|apply Kept.drew)|exact HK.out)⟩,⟨by repeat (first|(with_reducible first|exact HB.out|apply bal|apply pdN|apply bdr)|exact HB.out)⟩⟩
 case round=>
  clear H';(try clear p2);obtain ⟨x0_1,x2_1,x3_1,rfl,rfl,HA,HK1,HO_0,HK,HB⟩:=hrel;have hl0_1:=(Kd.R_reads' HO_0.out).1;rw [hl0_1] at HO_0
  (try simp only [hl0_1])
  cases gk with
  |zero=>exact absurd HA.out (by simp [sRev.l0])
  |succ k1=>
   have H:=HA.out;clear HA;simp only [sRev.l0] at H
   by_cases c3:x2_1 < x3_1
   ·rw [if_pos c3] at H
    have c3b0:decide (x2_1 < x3_1)=true:=decide_eq_true c3;clear c3
    by_cases c4:0≤x3_1
    ·rw [if_pos c4] at H
     have c4b0:decide (0≤x3_1)=true:=decide_eq_true c4;clear c4
     by_cases c5:x3_1 < (x0_1.length:Int)
     ·rw [if_pos c5] at H
      have c5b0:decide (x3_1 < (x0_1.length:Int))=true:=decide_eq_true c5;clear c5
      by_cases c6:0≤x2_1
      ·rw [if_pos c6] at H
       have c6b0:decide (0≤x2_1)=true:=decide_eq_true c6;clear c6
       by_cases c7:x2_1 < (x0_1.length:Int)
       ·rw [if_pos c7] at H
        have c7b0:decide (x2_1 < (x0_1.length:Int))=true:=decide_eq_true c7;clear c7;obtain ⟨y117,hy117⟩:∃ y_:List ByteArray,y_=(x0_1.set (x2_1:Int).toNat (rdOf ByteArray.empty x0_1 x3_1)):=⟨_,rfl⟩
        replace H:(sRev.l0 k1 (y117.set (x3_1:Int).toNat (rdOf ByteArray.empty x0_1 x2_1)) (wrap64 (x2_1+1)) (wrap64 (x3_1 - 1)))=some r:=by first|(rw [hy117];with_reducible exact H)|(have H2_:=(Option.bind_some _ _).symm.trans H;rw [hy117];with_reducible exact H2_)|(have H2_:=(Option.bind_some _ _).symm.trans H;with_reducible exact H2_)|with_reducible exact H|(rw [hy117];exact H)|exact H
        have Ny117:=A0_.mk hy117;clear hy117;obtain ⟨y118,hy118⟩:∃ y_:List ByteArray,y_=(y117.set (x3_1:Int).toNat (rdOf ByteArray.empty x0_1 x2_1)):=⟨_,rfl⟩
        replace H:(sRev.l0 k1 y118 (wrap64 (x2_1+1)) (wrap64 (x3_1 - 1)))=some r:=by first|(rw [hy118];with_reducible exact H)|(have H2_:=(Option.bind_some _ _).symm.trans H;rw [hy118];with_reducible exact H2_)|(have H2_:=(Option.bind_some _ _).symm.trans H;with_reducible exact H2_)|with_reducible exact H|(rw [hy118];exact H)|exact H
        have Ny118:=A0_.mk hy118;clear hy118
        have H':=A0_.mk H
        clear H
        try go_wp2
        have n0_:=A0_.mk (Kd.R_drew HO_0.out);have n1_:=A0_.mk (Kept.drew HK.out);have n2_:=A0_.mk (bdr HB.out);clear HO_0;clear HK;clear HB;have HO_0:=n0_;have HK:=n1_;have HB:=n2_;clear n0_ n1_ n2_;have p115:0≤(x3_1:Int):=of_decide_eq_true (by first|(with_reducible assumption)|assumption)
        have q115:x3_1 < (x0_1.length:Int):=of_decide_eq_true (by first|(with_reducible assumption)|assumption);obtain ⟨ad115,e115,hx115_0⟩:=Kd.at_string (Kd.R_reads' HO_0.out).2.2 x3_1 p115 q115;cases e115;replace p115:=eq_true p115;replace q115:=eq_true q115;have p116:0≤(x2_1:Int):=of_decide_eq_true (by first|(with_reducible assumption)|assumption)
        have q116:x2_1 < (x0_1.length:Int):=of_decide_eq_true (by first|(with_reducible assumption)|assumption);obtain ⟨ad116,e116,hx116_0⟩:=Kd.at_string (Kd.R_reads' HO_0.out).2.2 x2_1 p116 q116
        obtain rfl:ad115=ad116:=(by injection e116)
        replace p116:=eq_true p116;replace q116:=eq_true q116;have p8:0≤(x2_1:Int):=of_decide_eq_true (by first|(with_reducible assumption)|assumption)
        have q8:(x2_1:Int) < ((x0_1.length:Int):Int):=of_decide_eq_true (by first|(with_reducible assumption)|assumption)
        obtain ⟨go8,co8,eo8,gb8,gl8,cl8,HG8⟩:=Kd.R_form HO_0.out (by omega)
        (first|cases eo8|(injection eo8 with ea_ en_ ec_;(first|subst ea_|(injection ea_ with ea_;subst ea_));subst ec_;clear en_))
        have GB8:=A0_.mk gb8;have GG8:=A0_.mk HG8;clear gb8 gl8 HG8;have HMgo8:=A0_.mk (show (P0_ go8∨w.heap.size≤go8) from (HO_0.out.1 _ rfl))
        (first|simp only [add_plain] at hx115_0|skip)
        (first|simp only [add_plain] at hx116_0|skip)
        obtain ⟨hx8_0,hf8_0⟩:=Kd.R_celln (⟨#[]⟩:ByteArray) HO_0.out (x2_1:Int) p8 q8;replace p8:=eq_true p8;replace q8:=eq_true q8;have HP11:=Kd.R_putn HO_0.out (x2_1:Int) (rdOf ByteArray.empty x0_1 x3_1);rw [← Ny117.out] at HP11;have HQ11:=A0_.mk HP11;clear HP11;have p9:0≤(x3_1:Int):=of_decide_eq_true (by first|(with_reducible assumption)|assumption)
        have q9:(x3_1:Int) < ((x0_1.length:Int):Int):=of_decide_eq_true (by first|(with_reducible assumption)|assumption)
        obtain ⟨hx9_0,hf9_0⟩:=Kd.R_celln (⟨#[]⟩:ByteArray) HQ11.out (x3_1:Int) p9 q9;replace p9:=eq_true p9;replace q9:=eq_true q9;have HP12:=Kd.R_putn HQ11.out (x3_1:Int) (rdOf ByteArray.empty x0_1 x2_1);rw [← Ny118.out] at HP12;have HQ12:=A0_.mk HP12;clear HP12;refine start_ (n:=16) (S:=fun w'=>w'.cell? ⟨go8,(x3_1).toNat,none⟩=some (.string (rdOf ByteArray.empty x0_1 x3_1))∧w'.cell? ⟨go8,(x2_1).toNat,none⟩=some (.string (rdOf ByteArray.empty x0_1 x2_1))) (ds:=[13,15]) #[n_,n_,n_,n_,n_,n_,n_,n_,n_,n_,n_,n_,n_,n_,n_,n_] (by kernel_rfl) rfl rfl ⟨hx115_0,hx116_0⟩ (fun hHeld=>?_);refine with_tabW sRev.tab3 sRev.bits3 (fun HT_ HW_=>?_)
        generalize wr.drew=w10 at HO_0 HK HB GG8 HQ11 HQ12 hf8_0 hf9_0 hx115_0 hx116_0 hx8_0 hx9_0 hHeld ⊢
        refine pure_ (i:=0) (N:=some 14) (v:=?_) (a':=?_) #[y_,n_,n_,n_,n_,n_,n_,n_,n_,n_,n_,n_,n_,n_,n_,n_] rfl rfl (any_of HT_.out (by kernel_rfl)) (fun _ _ _ h=>h) (Or.inl ⟨by rfl,?_⟩) ?_ ?_;rotate_left
        ·intro w'
         go_simp;with_reducible rfl
        rotate_left
        ·simp only [Act.put,List.setIfInBounds_toArray,List.set_cons_zero,List.set_cons_succ,i64_w,i32_w]
         rfl
        refine pure_ (i:=1) (N:=some 15) (v:=?_) (a':=?_) #[y_,y_,n_,n_,n_,n_,n_,n_,n_,n_,n_,n_,n_,n_,n_,n_] rfl rfl (any_of HT_.out (by kernel_rfl)) (fun _ _ _ h=>h) (Or.inl ⟨by rfl,?_⟩) ?_ ?_;rotate_left
        ·intro w'
         go_simp;with_reducible rfl
        rotate_left
        ·simp only [Act.put,List.setIfInBounds_toArray,List.set_cons_zero,List.set_cons_succ,i64_w,i32_w]
         rfl
        refine pure_ (i:=2) (N:=some 16) (v:=?_) (a':=?_) #[y_,y_,y_,n_,n_,n_,n_,n_,n_,n_,n_,n_,n_,n_,n_,n_] rfl rfl (any_of HT_.out (by kernel_rfl)) (fun _ _ _ h=>h) (Or.inl ⟨by rfl,?_⟩) ?_ ?_;rotate_left
        ·intro w'
         go_simp;with_reducible rfl
        rotate_left
        ·simp only [Act.put,List.setIfInBounds_toArray,List.set_cons_zero,List.set_cons_succ,i64_w,i32_w]
         rfl
        refine pure_ (i:=3) (N:=some 17) (v:=?_) (a':=?_) #[y_,y_,y_,y_,n_,n_,n_,n_,n_,n_,n_,n_,n_,n_,n_,n_] rfl rfl (any_of HT_.out (by kernel_rfl)) (fun _ _ _ h=>h) (Or.inl ⟨by rfl,?_⟩) ?_ ?_;rotate_left
        ·intro w'
         go_simp;with_reducible rfl
        rotate_left
        ·simp only [Act.put,List.setIfInBounds_toArray,List.set_cons_zero,List.set_cons_succ,i64_w,i32_w]
         rfl
        refine pure_ (i:=4) (N:=some 18) (v:=?_) (a':=?_) #[y_,y_,y_,y_,y_,n_,n_,n_,n_,n_,n_,n_,n_,n_,n_,n_] rfl rfl (any_of HT_.out (by kernel_rfl)) (fun _ _ _ h=>h) (Or.inl ⟨by rfl,?_⟩) ?_ ?_;rotate_left
        ·intro w'
         go_simp;with_reducible rfl
        rotate_left
        ·simp only [Act.put,List.setIfInBounds_toArray,List.set_cons_zero,List.set_cons_succ,i64_w,i32_w]
         rfl
        refine pure_ (i:=5) (N:=some 19) (v:=?_) (a':=?_) #[y_,y_,y_,y_,y_,y_,n_,n_,n_,n_,n_,n_,n_,n_,n_,n_] rfl rfl (any_of HT_.out (by kernel_rfl)) (fun _ _ _ h=>h) (Or.inl ⟨by rfl,?_⟩) ?_ ?_;rotate_left
        ·intro w'
         go_simp;with_reducible rfl
        rotate_left
        ·simp only [Act.put,List.setIfInBounds_toArray,List.set_cons_zero,List.set_cons_succ,i64_w,i32_w]
         rfl
        refine pure_ (i:=6) (N:=some 20) (v:=?_) (a':=?_) #[y_,y_,y_,y_,y_,y_,y_,n_,n_,n_,n_,n_,n_,n_,n_,n_] rfl rfl (any_of HT_.out (by kernel_rfl)) (fun _ _ _ h=>h) (Or.inl ⟨by rfl,?_⟩) ?_ ?_;rotate_left
        ·intro w'
         go_simp;with_reducible rfl
        rotate_left
        ·simp only [Act.put,List.setIfInBounds_toArray,List.set_cons_zero,List.set_cons_succ,i64_w,i32_w]
         rfl
        refine pure_ (i:=8) (N:=some 22) (v:=?_) (a':=?_) #[y_,y_,y_,y_,y_,y_,y_,n_,y_,n_,n_,n_,n_,n_,n_,n_] rfl rfl (any_of HT_.out (by kernel_rfl)) (fun _ _ _ h=>h) (Or.inl ⟨by rfl,?_⟩) ?_ ?_;rotate_left
        ·intro w'
         go_simp;with_reducible rfl
        rotate_left
        ·simp only [Act.put,List.setIfInBounds_toArray,List.set_cons_zero,List.set_cons_succ,i64_w,i32_w]
         rfl
        refine pure_ (i:=9) (N:=some 23) (v:=?_) (a':=?_) #[y_,y_,y_,y_,y_,y_,y_,n_,y_,y_,n_,n_,n_,n_,n_,n_] rfl rfl (any_of HT_.out (by kernel_rfl)) (fun _ _ _ h=>h) (Or.inl ⟨by rfl,?_⟩) ?_ ?_;rotate_left
        ·intro w'
         go_simp;with_reducible rfl
        rotate_left
        ·simp only [Act.put,List.setIfInBounds_toArray,List.set_cons_zero,List.set_cons_succ,i64_w,i32_w]
         rfl
        refine pure_ (i:=10) (N:=some 24) (v:=?_) (a':=?_) #[y_,y_,y_,y_,y_,y_,y_,n_,y_,y_,y_,n_,n_,n_,n_,n_] rfl rfl (any_of HT_.out (by kernel_rfl)) (fun _ _ _ h=>h) (Or.inl ⟨by rfl,?_⟩) ?_ ?_;rotate_left
        ·intro w'
         go_simp;with_reducible rfl
        rotate_left
        ·simp only [Act.put,List.setIfInBounds_toArray,List.set_cons_zero,List.set_cons_succ,i64_w,i32_w]
         rfl
        refine take_ (i:=7) (N:=some 21) (v:=?_) (a':=?_) #[y_,y_,y_,y_,y_,y_,y_,y_,y_,y_,y_,n_,n_,n_,n_,n_] rfl rfl (take_ofW HT_.out HW_.out (by kernel_rfl)) (fun _ _ _ h=>h) (Or.inl ⟨by rfl,?_⟩) hHeld ?_ ?_;rotate_left
        ·rintro w' ⟨s0,s1⟩
         go_simp;with_reducible rfl
        rotate_left
        ·simp only [Act.put,List.setIfInBounds_toArray,List.set_cons_zero,List.set_cons_succ,i64_w,i32_w]
         rfl
        refine take_ (i:=11) (N:=some 25) (v:=?_) (a':=?_) #[y_,y_,y_,y_,y_,y_,y_,y_,y_,y_,y_,y_,n_,n_,n_,n_] rfl rfl (take_ofW HT_.out HW_.out (by kernel_rfl)) (fun _ _ _ h=>h) (Or.inl ⟨by rfl,?_⟩) hHeld ?_ ?_;rotate_left
        ·rintro w' ⟨s0,s1⟩
         go_simp;with_reducible rfl
        rotate_left
        ·simp only [Act.put,List.setIfInBounds_toArray,List.set_cons_zero,List.set_cons_succ,i64_w,i32_w]
         rfl
        refine pure_ (i:=12) (N:=some 26) (v:=?_) (a':=?_) #[y_,y_,y_,y_,y_,y_,y_,y_,y_,y_,y_,y_,y_,n_,n_,n_] rfl rfl (any_of HT_.out (by kernel_rfl)) (fun _ _ _ h=>h) (Or.inl ⟨by rfl,?_⟩) ?_ ?_;rotate_left
        ·intro w'
         go_simp;with_reducible rfl
        rotate_left
        ·simp only [Act.put,List.setIfInBounds_toArray,List.set_cons_zero,List.set_cons_succ,i64_w,i32_w]
         rfl
        refine last_ (i:=13) (N:=none) #[y_,y_,y_,y_,y_,y_,y_,y_,y_,y_,y_,y_,y_,y_,n_,n_] rfl rfl (one_of HT_.out (by kernel_rfl)) (by decide) (fun K hK=>?_);refine skip_ (w1:=?_) (by rfl) rfl ?_ ?_;rotate_left
        ·go_simp
         rfl
        refine hK.out _ _ ?_;clear hK K;refine pure_ (i:=14) (N:=some 27) (v:=?_) (a':=?_) #[y_,y_,y_,y_,y_,y_,y_,y_,y_,y_,y_,y_,y_,y_,y_,n_] rfl rfl (any_of HT_.out (by kernel_rfl)) (fun _ _ _ h=>h) (Or.inl ⟨by rfl,?_⟩) ?_ ?_;rotate_left
        ·intro w'
         go_simp;with_reducible rfl
        rotate_left
        ·simp only [Act.put,List.setIfInBounds_toArray,List.set_cons_zero,List.set_cons_succ,i64_w,i32_w]
         rfl
        refine last_ (i:=15) (N:=none) #[y_,y_,y_,y_,y_,y_,y_,y_,y_,y_,y_,y_,y_,y_,y_,y_] rfl rfl (one_of HT_.out (by kernel_rfl)) (by decide) (fun K hK=>?_);refine skip_ (w1:=?_) (by rfl) rfl ?_ ?_;rotate_left
        ·go_simp
         rfl
        refine hK.out _ _ ?_;clear hK K;refine done_ (done_of HT_.out (by kernel_rfl)) ?_
        try go_wp2
        (try simp only [← hl0_1])
        go_roundg k1
        case measure=>have:=HK1.out;omega
        case rel=>exact ⟨(y118),(wrap64 (x2_1+1)),(wrap64 (x3_1 - 1)),(by first|rfl|(simp;done)|(simp [*];done)),(by first|rfl|(simp;done)|(simp [*];done)),H',⟨by have:=HK1.out;omega⟩,⟨by (try simp only [hl0_1]);(with_reducible repeat (first|apply Kd.R_alloc|apply Kd.R_drewN|apply Kd.R_drew));exact HQ12.out⟩,⟨by repeat (first|(with_reducible first|exact HK.out|apply Kept.alloc|apply Kept.drewN|apply Kept.drew|refine Kept.setCell ?_ HMgo8.out _|refine Kept.setCell ?_ HMgo8.out _)|exact HK.out)⟩,⟨by repeat (first|(with_reducible first|exact HB.out|apply bal|apply pdN|apply bdr|refine bst ?_ GB8.out|refine bst ?_ GB8.out)|exact HB.out)⟩⟩
       ·rw [if_neg c7] at H
        exact absurd H (by simp)
      ·rw [if_neg c6] at H
       exact absurd H (by simp)
     ·rw [if_neg c5] at H
      exact absurd H (by simp)
    ·rw [if_neg c4] at H
     exact absurd H (by simp)
   ·rw [if_neg c3] at H
    have c3b0:decide (x2_1 < x3_1)=false:=decide_eq_false c3;clear c3
    obtain rfl:=Option.some.inj H
    go_wp2
    first|go_end0|((try simp only [Exit.inBlock,Exit.then]);refine bodyPost_ret (results_none rfl _ _ _) rfl ?_)
    exact ⟨by first|rfl|(simp [errW_none,errW_some] <;> rfl)|(simp [*,errW_none,errW_some] <;> rfl),(by first|exact (by (with_reducible repeat (first|apply Kd.R_alloc|apply Kd.R_drewN|apply Kd.R_drew));exact HO_0.out)|(simp only [hl0_1];exact (by (with_reducible repeat (first|apply Kd.R_alloc|apply Kd.R_drewN|apply Kd.R_drew));exact HO_0.out))),by repeat (first|(with_reducible first|exact HB.out|apply bal|apply pdN|apply bdr)|exact HB.out),by repeat (first|(with_reducible first|exact HK.out|apply Kept.alloc|apply Kept.drewN|apply Kept.drew)|exact HK.out)⟩


/-! ### iFf: function 57 -/
def iFf.l0:Nat → Int → List ByteArray → List (S75) → Option (List ByteArray)
 |0,_,_,_=>none
 |k+1,x1,x4,x120000=>if x1 > 0 then (if 0≤x1 then (if x1 < (x120000.length:Int) then (if x4.length < 8796093022208 then (iFf.l0 k ((rT x120000 x1).f0) (x4++[(rT x120000 x1).f1]) x120000) else (none)) else (none)) else (none)) else ((sRev.f k x4).bind fun t125=>(some t125))
def iFf.f (k:Nat) (l0_0:List (S75)) (a1:Int):Option (List ByteArray):=iFf.l0 k a1 ([]:List ByteArray) l0_0
theorem iFf.mono_l:∀ k,(∀ y0 y1 y2,LeO (iFf.l0 k y0 y1 y2) (iFf.l0 (k+1) y0 y1 y2))
 |0=>fun _ _ _ r h=>by simp [iFf.l0] at h
 |k+1=>by
  have ih0:=iFf.mono_l k
  ·intro y0 y1 y2
   unfold iFf.l0
   repeat' first
   |(with_reducible exact ih0 _ _ _)
   |(with_reducible exact sRev.mono _ _)
   |(with_reducible exact LeO.refl _)
   |(with_reducible exact LeO.none _)
   |(with_reducible refine LeO.ite ?_ ?_)
   |(with_reducible refine LeO.bind ?_ (fun _=>?_))
   |exact ih0 _ _ _
   |exact sRev.mono _ _
   |exact LeO.none _
   |refine LeO.ite ?_ ?_
   |refine LeO.bind ?_ (fun _=>?_)
theorem iFf.mono:∀ a0 a1 k,LeO (iFf.f k a0 a1) (iFf.f (k+1) a0 a1):=by
 intro a0 a1 k
 have ih0:=iFf.mono_l k;unfold iFf.f
 repeat' first
   |(with_reducible exact ih0 _ _ _)
   |(with_reducible exact sRev.mono _ _)
   |(with_reducible exact LeO.refl _)
   |(with_reducible exact LeO.none _)
   |(with_reducible refine LeO.ite ?_ ?_)
   |(with_reducible refine LeO.bind ?_ (fun _=>?_))
   |exact ih0 _ _ _
   |exact sRev.mono _ _
   |exact LeO.none _
   |refine LeO.ite ?_ ?_
   |refine LeO.bind ?_ (fun _=>?_)
set_option maxHeartbeats 8000000 in
set_option maxRecDepth 100000 in
theorem iFf.calls (k:Nat) (A0_0:Option Addr) (c0_0:Nat) (l0_0:List (S75)) (a1:Int) (r:List ByteArray) (w:World) (hr0_0:Kd.C k75 w A0_0 l0_0.length l0_0) (hc0_0:l0_0.length≤c0_0) (h:iFf.f k l0_0 a1=some r) :
  Calls Try.prog 57 #[.agg #[.slice A0_0 l0_0.length c0_0],.int .i64 a1] w fun e w'=>∃ v0_:Value,e=.returned (v0_)∧Kd.R Kd.string 9 w' w.heap.size (fun _=>True) v0_ r∧Below w.heap.size w w':=by
 have hu36:=Try.underlying36;have HR0_0:=A0_.mk hr0_0;have HC0_0:=A0_.mk hc0_0;clear hr0_0 hc0_0;have HB:=A0_.mk (Below.refl w.heap.size w);have H:(iFf.l0 k a1 ([]:List ByteArray) l0_0)=some r:=h;clear h
 have H':=A0_.mk H
 clear H
 go_enter Try.func57,Try.ntmps57
 go_wp2_with (first|((with_reducible refine gtD (N:=2) rfl ?_);refine bxE ?hg (N:=2) ?hd (cs:=#[.slice A0_0 l0_0.length c0_0]) (t:=36) ?hr ?_;(case hd=>rfl);(case hg=>rfl);(case hr=>first|(go_simp;done)|(go_simp;rfl));intro gb119 hg w3 hbox hb;have n0_:=A0_.mk (bsp (by repeat (first|(with_reducible first|exact HB.out|apply bal|apply pdN|apply bdr)|exact HB.out)) hb);have n1_:=A0_.mk (hbox);have n2_:=A0_.mk ((by rw [hg];exact (bsz (by repeat (first|(with_reducible first|exact HB.out|apply bal|apply pdN|apply bdr)|exact HB.out))):w.heap.size≤gb119));have n3_:=A0_.mk ((by rw [hg];exact (bsz (by repeat (first|(with_reducible first|exact HB.out|apply bal|apply pdN|apply bdr)|exact HB.out))):w.heap.size≤gb119));clear HB;have HB:=n0_;have BK119:=n1_;have GW119:=n2_;have GE119:=n3_;clear n0_ n1_ n2_ n3_;clear hb hbox hg))
 go_loopg [1,4] k (fun kq v1 v4 w'=>∃ (x1_1:Int) (x4_1:List ByteArray),v1=.int .i64 x1_1∧A0_ (iFf.l0 kq x1_1 x4_1 l0_0=some r)∧A0_ (kq≤k)∧A0_ (Kd.R Kd.string 9 w' w.heap.size (fun _=>True) v4 x4_1)∧A0_ (w'.heap[gb119]? = some (.cells #[(.slice A0_0 l0_0.length c0_0)] 36 (0,0)))∧A0_ (Below w.heap.size w w'))
 case atStart=>exact ⟨(a1),(([]:List ByteArray)),(by first|rfl|(simp;done)|(simp [*];done)),H',⟨Nat.le_refl _⟩,⟨by first|exact Kd.R_nil _ _ _ _ _|exact Kd.N_nil _ _ _ _ _|exact Kd.V_nil _ _ _ _ _|exact Kd.Q_nil _ _ _ _ _|exact Kd.S_nil _ _ _ _ _⟩,⟨by (with_reducible repeat first|apply bkN|apply bkD|apply bkA);exact BK119.out⟩,⟨by repeat (first|(with_reducible first|exact HB.out|apply bal|apply pdN|apply bdr|refine bst ?_ GE119.out)|exact HB.out)⟩⟩
 case round=>
  clear H';(try clear p2);obtain ⟨x1_1,x4_1,rfl,HA,HK1,HO_4,BK119,HB⟩:=hrel
  cases gk with
  |zero=>exact absurd HA.out (by simp [iFf.l0])
  |succ k1=>
   have H:=HA.out;clear HA;simp only [iFf.l0] at H
   by_cases c4:x1_1 > 0
   ·rw [if_pos c4] at H
    have c4b0:decide (0 < x1_1)=true:=decide_eq_true c4;clear c4
    by_cases c5:0≤x1_1
    ·rw [if_pos c5] at H
     have c5b0:decide (0≤x1_1)=true:=decide_eq_true c5;clear c5
     by_cases c6:x1_1 < (l0_0.length:Int)
     ·rw [if_pos c6] at H
      have c6b0:decide (x1_1 < (l0_0.length:Int))=true:=decide_eq_true c6;clear c6
      by_cases c7:x4_1.length < 8796093022208
      ·rw [if_pos c7] at H
       have LMc7:=A0_.mk c7;clear c7;obtain ⟨y121,hy121⟩:∃ y_:List ByteArray,y_=(x4_1++[(rT l0_0 x1_1).f1]):=⟨_,rfl⟩
       replace H:(iFf.l0 k1 ((rT l0_0 x1_1).f0) y121 l0_0)=some r:=by first|(rw [hy121];with_reducible exact H)|(have H2_:=(Option.bind_some _ _).symm.trans H;rw [hy121];with_reducible exact H2_)|(have H2_:=(Option.bind_some _ _).symm.trans H;with_reducible exact H2_)|with_reducible exact H|(rw [hy121];exact H)|exact H
       have Ny121:=A0_.mk hy121;clear hy121
       have H':=A0_.mk H
       clear H;have hcz8_0:wr.cell? ⟨gb119,0,none⟩=some (.slice A0_0 l0_0.length c0_0):=(bkC BK119.out 0).trans rfl
       have hfz8_0:=bkF BK119.out 0;have p120:0≤(x1_1:Int):=of_decide_eq_true (by first|(with_reducible assumption)|assumption)
       have q120:x1_1 < (l0_0.length:Int):=of_decide_eq_true (by first|(with_reducible assumption)|assumption);obtain ⟨ad120,e120,hx120_0,hx120_1,hx120_2⟩:=at_T75 HR0_0.out x1_1 p120 q120;cases e120;replace hx120_0:=(HB.out.cell (World.block_lt_of_cell? w _ hx120_0)).trans hx120_0;replace hx120_1:=(HB.out.cell (World.block_lt_of_cell? w _ hx120_1)).trans hx120_1;replace hx120_2:=(HB.out.cell (World.block_lt_of_cell? w _ hx120_2)).trans hx120_2;replace p120:=eq_true p120;replace q120:=eq_true q120
       go_wp2_with (first|((with_reducible refine gate_builtin (b:=.append) (xs:=#[.tmp 13,.tmp 20]) rfl ?_);at_builtin;refine Kd.R_append Kd.string (w0:=w) w.heap.size rfl (.tmp 13) (.tmp 20) 54 9 (.string ⟨#[]⟩) 16 rfl Try.underlying54 info9 rfl (by decide) (by omega) u4 x4_1 ((rT l0_0 x1_1).f1) [.string ((rT l0_0 x1_1).f1)] (fun _=>True) (fun _=>False) rfl rfl ?aP (fun _ hk=>hk.elim) ?aF ?aO ?aB ?aS ?aL ?_;(case aP=>exact rfl);(case aB=>exact (by repeat (first|(with_reducible first|exact HB.out|apply bal|apply pdN|apply bdr|refine bst ?_ GE119.out)|exact HB.out)));(case aF=>exact (fun _ _=>trivial));(case aO=>exact (by (with_reducible repeat (first|apply Kd.R_alloc|apply Kd.R_drewN|apply Kd.R_drew));exact HO_4.out));(case aS=>exact (bsz (by repeat (first|(with_reducible first|exact HB.out|apply bal|apply pdN|apply bdr|refine bst ?_ GE119.out)|exact HB.out))));(case aL=>have:=LMc7.out;omega);intro v122 w9 ho hb hg hat;rw [← Ny121.out] at ho;have n0_:=A0_.mk (blk_grown (g:=gb119) (o:=.cells #[.slice (some ad120) l0_0.length c0_0] 36 (0,0)) (by (with_reducible repeat first|apply bkN|apply bkD|apply bkA);exact BK119.out) hg (Kd.R_ne HO_4.out BK119.out (by decide)));have n1_:=A0_.mk (hb);have n2_:=A0_.mk (ho);clear BK119;clear HB;clear HO_4;have BK119:=n0_;have HB:=n1_;have HO123:=n2_;clear n0_ n1_ n2_;clear ho hb hg hat;have hcz10_0:w9.cell? ⟨gb119,0,none⟩=some (.slice (some ad120) l0_0.length c0_0):=(bkC BK119.out 0).trans rfl;have hfz10_0:=bkF BK119.out 0;have p124:0≤(x1_1:Int):=of_decide_eq_true (by first|(with_reducible assumption)|assumption);have q124:x1_1 < (l0_0.length:Int):=of_decide_eq_true (by first|(with_reducible assumption)|assumption);obtain ⟨ad124,e124,hx124_0,hx124_1,hx124_2⟩:=at_T75 HR0_0.out x1_1 p124 q124;obtain rfl:ad120=ad124:=(by injection e124);replace hx124_0:=(HB.out.cell (World.block_lt_of_cell? w _ hx124_0)).trans hx124_0;replace hx124_1:=(HB.out.cell (World.block_lt_of_cell? w _ hx124_1)).trans hx124_1;replace hx124_2:=(HB.out.cell (World.block_lt_of_cell? w _ hx124_2)).trans hx124_2;replace p124:=eq_true p124;replace q124:=eq_true q124))
       go_roundg k1
       case measure=>have:=HK1.out;omega
       case rel=>exact ⟨((rT l0_0 x1_1).f0),(y121),(by first|rfl|(simp;done)|(simp [*];done)),H',⟨by have:=HK1.out;omega⟩,⟨by (with_reducible repeat (first|apply Kd.R_alloc|apply Kd.R_drewN|apply Kd.R_drew));exact HO123.out⟩,⟨by (with_reducible repeat first|apply bkN|apply bkD|apply bkA);exact BK119.out⟩,⟨by repeat (first|(with_reducible first|exact HB.out|apply bal|apply pdN|apply bdr|refine bst ?_ GE119.out)|exact HB.out)⟩⟩
      ·rw [if_neg c7] at H
       exact absurd H (by simp)
     ·rw [if_neg c6] at H
      exact absurd H (by simp)
    ·rw [if_neg c5] at H
     exact absurd H (by simp)
   ·rw [if_neg c4] at H
    have c4b0:decide (0 < x1_1)=false:=decide_eq_false c4;clear c4;replace H:=Option.bind_eq_some_iff.mp H;obtain ⟨t125,A110,H⟩:=H
    replace H:(some t125)=some r:=H
    have A11:=A0_.mk A110;clear A110
    obtain rfl:=Option.some.inj H
    obtain ⟨Ao12,co12,eo12⟩:=Kd.R_slice HO_4.out;subst eo12
    go_wp2_with (first|((with_reducible refine gtC (f:=91) rfl ?_);refine goesL_ (some 23) rfl rfl Try.func91 (by kernel_rfl) rfl #[.slice Ao12 x4_1.length co12] rfl (by (try simp only [List.map_toArray,List.map_cons,List.map_nil]);first|done|rfl|(simp only [List.length_drop,List.length_take];rfl)) ?_;(with_reducible refine (sRev.calls k1 (fun k_=>some k_=(.slice Ao12 x4_1.length co12:Value).ownBlock) (.slice Ao12 x4_1.length co12) x4_1 t125 w _ ?side1 ?side2 A11.out).mono ?_);(case side1=>repeat (first|(with_reducible first|exact HB.out|apply bal|apply pdN|apply bdr|refine bst ?_ GE119.out)|exact HB.out));(case side2=>exact Kd.R_tight rfl HO_4.out);rintro e w13 ⟨rfl,hy0,hb,hkp⟩;refine ⟨_,rfl,?_⟩;have n0_:=A0_.mk (Kd.R_reok rfl hy0 (fun k_ e_=>HO_4.out.1 k_ e_));have n1_:=A0_.mk (bkK (by (with_reducible repeat first|apply bkN|apply bkD|apply bkA);exact BK119.out) hkp (fun hs_=>(fun e_=>(Kd.R_ne HO_4.out BK119.out (by decide)) e_) hs_));have n2_:=A0_.mk (hb);clear HO_4;clear BK119;clear HB;have HO_4:=n0_;have BK119:=n1_;have HB:=n2_;clear n0_ n1_ n2_;(try clear hb);(try clear hkp);(try clear hy0)))
    go_ret;exact ⟨_,by first|rfl|(simp [errW_none,errW_some] <;> rfl)|(simp [*,errW_none,errW_some] <;> rfl),by (with_reducible repeat (first|apply Kd.R_alloc|apply Kd.R_drewN|apply Kd.R_drew));exact HO_4.out,by repeat (first|(with_reducible first|exact HB.out|apply bal|apply pdN|apply bdr|refine bst ?_ GE119.out)|exact HB.out)⟩


/-! ### sSort: function 58 -/
def sSort.f (l0:List ByteArray):Option (List ByteArray):=if l0.length < 4611686018427387904 then some (SortRow.sortF l0) else none
theorem sSort.calls (P0_:Nat → Prop) (u9000_:Value) (l0:List ByteArray) (r:List ByteArray) (w0 w:World) (hB:Below w0.heap.size w0 w) (ho0:Kd.R Kd.string 9 w w0.heap.size P0_ u9000_ l0) (h:sSort.f l0=some r) :
  Calls Try.prog 58 #[u9000_] w fun e w'=>e=.returned (.tuple #[])∧Kd.R Kd.string 9 w' w0.heap.size (fun k_=>(P0_ k_∨w.heap.size≤k_)) u9000_ r∧Below w0.heap.size w0 w'∧Kept w w' (fun k_=>P0_ k_):=by
 unfold sSort.f at h
 by_cases hs:l0.length < 4611686018427387904
 ·rw [if_pos hs] at h
  obtain rfl:=Option.some.inj h
  exact SortRow.sort_row P0_ u9000_ l0 w0 w hB ho0 hs
 ·rw [if_neg hs] at h
  exact absurd h (by simp)


/-! ### sComp: function 59 -/
def sComp.f (l0:List ByteArray):Option (List ByteArray):=if l0.length < 4611686018427387904 then some (SortRow.compactF l0) else none
theorem sComp.calls (P0_:Nat → Prop) (u9000_:Value) (l0:List ByteArray) (r:List ByteArray) (w0 w:World) (hB:Below w0.heap.size w0 w) (ho0:Kd.R Kd.string 9 w w0.heap.size P0_ u9000_ l0) (h:sComp.f l0=some r) :
  Calls Try.prog 59 #[u9000_] w fun e w'=>∃ v0_:Value,e=.returned v0_∧Kd.R Kd.string 9 w' w0.heap.size (fun k_=>True) v0_ r∧Below w0.heap.size w0 w'∧Kept w w' (fun k_=>P0_ k_):=by
 unfold sComp.f at h
 by_cases hs:l0.length < 4611686018427387904
 ·rw [if_pos hs] at h
  obtain rfl:=Option.some.inj h
  exact SortRow.compact_row P0_ u9000_ l0 w0 w hB ho0 hs
 ·rw [if_neg hs] at h
  exact absurd h (by simp)

end Go.Proofs.Ytclploookcjcbaa.PFr
