/- Proved: what the reference's play of a script comes to; what the program's check of an act comes to, where its table of fields lies as its text lays it; the program's check of an act and the reference's are one; the state of the program's play, and its step's answers where nothing is done; the program's step where a site or a key is wrong; the program's step: a key is read; the program's step: a site's field is read. Conditions: those each theorem states. -/
import Derived.Test.YtclploookcjcbaaDoorIdGD
import Derived.Test.YtclploookcjcbaaDoorIdGB
import Derived.Deep.RegionHeld3
namespace Go.Proofs.YtclploookcjcbaaDoor.PIde
open Go.RowKit Go.Proofs.YtclploookcjcbaaDoorW.PrintWords Go.Proofs.YtclploookcjcbaaDoorW.PrintLast Go.Proofs.YtclploookcjcbaaDoorW.PrintMore
attribute [local go_sem] max2_int min2_int max_two min_two max_three min_three max_four min_four   -- for this text's walks alone
set_option linter.unusedVariables false
set_option linter.unusedSimpArgs false
theorem info39 : (Tryd.prog.info? 39).map (·.size) = some 3 := by kernel_rfl
theorem info60t : (Tryd.prog.info? 60).map (fun i => (i.zero, i.size, i.bytes)) = some (some (.agg #[.int .i64 0, .int .i64 0, .int .i64 0, .int .i64 0, .float .f64 0, .string ⟨#[]⟩, .int .i64 0, .int .i64 0, .int .i64 0, .float .f64 0, .string ⟨#[]⟩, .int .i64 0]), 12, 112) := by kernel_rfl
/-- An answer's three cells are handed back. -/
theorem ret39 {fn : Func} {p : Tmp} (h : fn.results = #[.cell p 39]) {tmps : Array Value} {W : World} {g : Nat} {u0 u1 u2 : Value} (hp : tmps.getD p undef = .pointer (some ⟨g, 0, none⟩)) (HF : W.heap[g]? = some (.cells #[u0, u1, u2] 39 (0, 0))) :
    (results fn tmps).run Tryd.prog W = .ok (.agg #[u0, u1, u2]) W := results_cell_row h tmps W g 39 _ (0, 0) _ hp HF Tryd.underlying39 rfl info39
theorem set3 {w : World} {g : Nat} {t : TypeId} {x0 x1 x2 u0 u1 u2 : Value} (h : w.heap[g]? = some (.cells #[x0, x1, x2] t (0, 0))) :
    (((w.setCell ⟨g, 0, none⟩ u0).setCell ⟨g, 1, none⟩ u1).setCell ⟨g, 2, none⟩ u2).heap[g]? = some (.cells #[u0, u1, u2] t (0, 0)) := by
  simpa using blk_set (blk_set (blk_set h 0 u0) 1 u1) 2 u2
theorem SSt.kt {w0 w w1 : World} {base gM : Nat} {tv sv : Value} {ts : List S78} {ss : List ByteArray} {L : List Nat} (h : SSt w0 w base gM tv sv ts ss) (hk : KT L w w1) (hB : Below base w0 w1) (h1 : 58 ∉ L) (h2 : ∀ q, q ∈ 78 :: k78.E → q ∉ L) (h3 : ∀ q, q ∈ 9 :: Kd.string.E → q ∉ L) : SSt w0 w1 base gM tv sv ts ss :=
  ⟨hB, Nat.le_trans h.le hk.1, hk.blk h.M h1, h.gm, S_KT h.T hk h2, R_KT h.S hk h3⟩
theorem KT.sets {L : List Nat} {w : World} {g o : Nat} {cs : Array Value} {t : TypeId} (h : w.heap[g]? = some (.cells cs t (0, 0))) (ht : t ∈ L) (vs : List Value) : KT L w (w.setCells g o vs) :=
  KT.grown (grown_setCells w g o vs) (fun k e => by injection e with e; subst e; exact ⟨cs, t, h, ht⟩)
theorem c3 {w : World} {g : Nat} {t : TypeId} {x0 x1 x2 : Value} (h : w.heap[g]? = some (.cells #[x0, x1, x2] t (0, 0))) : (w.cell? ⟨g, 0, none⟩ = some x0 ∧ w.cell? ⟨g, 1, none⟩ = some x1 ∧ w.cell? ⟨g, 2, none⟩ = some x2) ∧ w.frozen? ⟨g, 0, none⟩ = false ∧ w.frozen? ⟨g, 1, none⟩ = false ∧ w.frozen? ⟨g, 2, none⟩ = false := by
  have e := fun j => blk_cell h j
  refine ⟨⟨?_, ?_, ?_⟩, blk_frozen h 0, blk_frozen h 1, blk_frozen h 2⟩ <;> rw [e] <;> rfl
set_option maxHeartbeats 4000000 in
set_option maxRecDepth 100000 in
theorem runS_long (acts : List S31) (hl : 1000 < acts.length) (A : Option Addr) (c : Nat) (w : World) :
    Calls Tryd.prog 10 #[.slice A acts.length c] w (IdealOut w z39) := by
  have hl1 : decide ((1000 : Int) < (acts.length : Int)) = true := decide_eq_true (by omega)
  have hl2 : decide (1000 < acts.length) = true := decide_eq_true hl
  clear hl
  have hu := Tryd.underlying31
  have hu2 := Tryd.underlying39
  have hu3 := Tryd.underlying58
  have hu4 := Tryd.underlying60
  have hu5 := Tryd.underlying41
  go_enter Tryd.func10, Tryd.ntmps10
  go_wp2
  exact bodyPost_ret (ret39 rfl rfl (heap_alloc_new w _)) rfl ⟨.slice none 0 0, .slice none 0 0, rfl, Kd.R_nil _ _ _ _ _, Kd.S_nil _ _ _ _ _, below_alloc (Below.refl _ _) _⟩
set_option maxHeartbeats 8000000 in
set_option maxRecDepth 100000 in
theorem runS_short (acts : List S31) (hl : acts.length ≤ 1000) (A : Option Addr) (c : Nat) (w : World) (hr : Kd.C k31 w A acts.length acts) :
    Calls Tryd.prog 10 #[.slice A acts.length c] w (IdealOut w ⟨true, (playM idxL acts).1, (playM idxL acts).2.1⟩) := by
  have HR := Aside0.mk hr
  have H5 := Aside0.mk hl
  have hl1 : decide ((1000 : Int) < (acts.length : Int)) = false := decide_eq_false (by omega)
  have hl2 : decide (1000 < acts.length) = false := decide_eq_false (by omega)
  have e0 : w.heap.size + 1 = (w.alloc (.cells #[.bool false, .slice none 0 0, .slice none 0 0] 39)).heap.size := by simp
  have HB := Aside0.mk (below_alloc (below_alloc (below_alloc (Below.refl w.heap.size w) (.cells #[.bool false, .slice none 0 0, .slice none 0 0] 39)) (.cells #[.slice none 0 0, .slice none 0 0] 58)) (.cells #[.bool true, .slice none 0 0, .slice none 0 0] 39))
  have BR := Aside0.mk (blk_alloc (blk_alloc (heap_alloc_new w (.cells #[.bool false, .slice none 0 0, .slice none 0 0] 39)) (.cells #[.slice none 0 0, .slice none 0 0] 58)) (.cells #[.bool true, .slice none 0 0, .slice none 0 0] 39))
  have BM := Aside0.mk (blk_alloc (heap_alloc2_new w (.cells #[.bool false, .slice none 0 0, .slice none 0 0] 39) (.cells #[.slice none 0 0, .slice none 0 0] 58)) (.cells #[.bool true, .slice none 0 0, .slice none 0 0] 39))
  have BO := Aside0.mk (show (((w.alloc (.cells #[.bool false, .slice none 0 0, .slice none 0 0] 39)).alloc (.cells #[.slice none 0 0, .slice none 0 0] 58)).alloc (.cells #[.bool true, .slice none 0 0, .slice none 0 0] 39)).heap[w.heap.size + 2]? = some (.cells #[.bool true, .slice none 0 0, .slice none 0 0] 39 (0, 0)) by simpa using heap_alloc_new ((w.alloc (.cells #[.bool false, .slice none 0 0, .slice none 0 0] 39)).alloc (.cells #[.slice none 0 0, .slice none 0 0] 58)) (.cells #[.bool true, .slice none 0 0, .slice none 0 0] 39))
  clear hr hl e0
  have hu := Tryd.underlying31
  have hu2 := Tryd.underlying39
  have hu3 := Tryd.underlying58
  have hu4 := Tryd.underlying60
  have hu5 := Tryd.underlying41
  go_enter Tryd.func10, Tryd.ntmps10
  go_wp2
  go_loopg [17] acts.length (fun d v17 wr => ∃ (i : Nat) (av tv sv : Value), v17 = .int .i64 (i : Int) ∧ Aside0 (i + d = acts.length) ∧ Aside0 (SSt w wr w.heap.size (w.heap.size + 1) tv sv (playM idxL (acts.take i)).2.1 (playM idxL (acts.take i)).2.2) ∧ Aside0 (wr.heap[w.heap.size + 2]? = some (.cells #[.bool true, av, .slice none 0 0] 39 (0, 0))) ∧ Aside0 (wr.heap[w.heap.size]? = some (.cells #[.bool false, .slice none 0 0, .slice none 0 0] 39 (0, 0))) ∧ Aside0 (k60.R 60 wr w.heap.size tt av (playM idxL (acts.take i)).1))
  case atStart =>
    exact ⟨0, .slice none 0 0, .slice none 0 0, .slice none 0 0, rfl, ⟨Nat.zero_add _⟩, ⟨⟨HB.out, HB.out.size, BM.out, Nat.le_add_right _ 1, Kd.S_nil _ _ _ _ _, Kd.R_nil _ _ _ _ _⟩⟩, BO, BR, ⟨Kd.R_nil _ _ _ _ _⟩⟩
  case round =>
    clear HB BR BM BO
    obtain ⟨i, av, tv, sv, rfl, HD, HS, BO, BR, HA⟩ := hrel
    have hm := H5.out
    cases gk with
    | zero =>
      have c1 : decide ((i : Int) < (acts.length : Int)) = false := decide_eq_false (by have := HD.out; omega)
      have c1n : decide (i < acts.length) = false := decide_eq_false (by have := HD.out; omega)
      rw [List.take_of_length_le (by have := HD.out; omega)] at HS HA
      generalize playM idxL acts = st at *
      obtain ⟨an, ts, ss⟩ := st
      simp only [] at *
      obtain ⟨aA, ac', rfl⟩ := Kd.R_slice HA.out
      obtain ⟨tA, tc, rfl⟩ := Kd.S_slice HS.out.T
      have lt1 := blk_lt HS.out.M
      have lt2 := blk_lt BO.out
      have lt3 := blk_lt BR.out
      have mz0 := (blk_cell HS.out.M 0).trans (show _ = some _ from rfl)
      obtain ⟨⟨oz0, oz1, oz2⟩, of0, of1, of2⟩ := c3 BO.out
      obtain ⟨⟨rz0, rz1, rz2⟩, rf0, rf1, rf2⟩ := c3 BR.out
      clear hm
      go_wp2
      have hk1 : KT [39] wr (wr.setCell ⟨w.heap.size + 2, 2, none⟩ (.slice tA ts.length tc)) := KT.set BO.out (by simp) _
      have hR1 : (wr.setCell ⟨w.heap.size + 2, 2, none⟩ (.slice tA ts.length tc)).heap[w.heap.size]? = _ := (Below.heap_setCell wr ⟨w.heap.size + 2, 2, none⟩ _ w.heap.size (by simp)).trans BR.out
      have hk2 := hk1.trans (KT.sets (o := 0) hR1 (by simp) [.bool true, .slice aA an.length ac', .slice tA ts.length tc])
      exact bodyPost_ret (ret39 rfl rfl (set3 hR1)) rfl ⟨.slice aA an.length ac', .slice tA ts.length tc, rfl, R_KT HA.out hk2 (by decide), S_KT HS.out.T hk2 (by decide), (((HS.out.B.setCell (Nat.le_add_right _ 2) _).setCell (Nat.le_refl _) _).setCell (Nat.le_refl _) _).setCell (Nat.le_refl _) _⟩
    | succ d =>
      have hi : i < acts.length := by have := HD.out; omega
      have c1 : decide ((i : Int) < (acts.length : Int)) = true := decide_eq_true (by omega)
      have c1n : decide (i < acts.length) = true := decide_eq_true hi
      have c2 : decide (0 ≤ (i : Int)) = true := decide_eq_true (by omega)
      obtain ⟨ad, e1, hx0, hx1, hx2, hx3, hx4, hx5, hx6, hx7, hx8, hx9, hx10, hx11, hx12, hx13⟩ := at_T31 (Kd.C_below HR.out HS.out.B) (i : Int) (by omega) (by omega)
      cases e1
      simp only [Int.toNat_natCast] at hx0 hx1 hx2 hx3 hx4 hx5 hx6 hx7 hx8 hx9 hx10 hx11 hx12 hx13
      have q1 : 0 ≤ (i : Int) := by omega
      have q2 : (i : Int) < (acts.length : Int) := by omega
      have q3 : IntKind.i64.wrap ((i : Int) + 1) = ((i + 1 : Nat) : Int) := by rw [IntWalk.i64_in _ ⟨by omega, by omega⟩]; omega
      have HPL := playM_snoc idxL acts i hi
      rw [show acts.getD i z31 = (rd_T31 acts (i : Int)) by simp [rd_T31]] at HPL
      obtain ⟨⟨ok1, ok2, ok3⟩, ok4⟩ := playM_ok idxL acts i (by omega)
      have HPL := Aside0.mk HPL
      generalize playM idxL (acts.take i) = st at *
      obtain ⟨an, ts, ss⟩ := st
      simp only [] at ok1 ok2 ok3 ok4 HS HA
      unfold playS at HPL
      simp only [] at HPL
      have HDo : Aside0 (∀ w1, SSt w w1 w.heap.size (w.heap.size + 1) tv sv ts ss → Calls Tryd.prog 25 #[.pointer (some ⟨w.heap.size + 1, 0, none⟩), .agg #[.int .i64 (rd_T31 acts (i : Int)).f0, .int .i64 (rd_T31 acts (i : Int)).f1, .int .i64 (rd_T31 acts (i : Int)).f2, .int .i64 (rd_T31 acts (i : Int)).f3, .int .i64 (rd_T31 acts (i : Int)).f4.f0, .int .i64 (rd_T31 acts (i : Int)).f4.f1, .float .f64 (rd_T31 acts (i : Int)).f4.f2, .string (rd_T31 acts (i : Int)).f4.f3, .int .i64 (rd_T31 acts (i : Int)).f4.f4, .int .i64 (rd_T31 acts (i : Int)).f5.f0, .int .i64 (rd_T31 acts (i : Int)).f5.f1, .float .f64 (rd_T31 acts (i : Int)).f5.f2, .string (rd_T31 acts (i : Int)).f5.f3, .int .i64 (rd_T31 acts (i : Int)).f5.f4]] w1 (DoneS w w1 w.heap.size (w.heap.size + 1) (stepM idxL ts ss (rd_T31 acts (i : Int))))) := ⟨fun w1 hs1 => doS_calls w w1 w.heap.size (w.heap.size + 1) tv sv ts ss (rd_T31 acts (i : Int)) hs1 ok1 ok2 ok3⟩
      have HAL : Aside0 (an.length ≤ 1000) := ⟨by omega⟩
      generalize stepM idxL ts ss (rd_T31 acts (i : Int)) = R at *
      obtain ⟨⟨a0, a1, ⟨a2, a3, a4, a5, a6⟩, ⟨a7, a8, a9, a10, a11⟩⟩, rts, rss⟩ := R
      obtain ⟨aA, ac', rfl⟩ := Kd.R_slice HA.out
      have lt1 := blk_lt HS.out.M
      have lt2 := blk_lt BO.out
      have lt3 := blk_lt BR.out
      clear hm hi ok1 ok2 ok3 ok4
      go_wp2_with (first | (go_at_call 25; refine (HDo.out _ (HS.out.below (below_alloc (Below.refl _ _) _))).mono ?_; rintro e w1 ⟨tv1, sv1, rfl, hs1, hk1⟩; have HS1 := Aside0.mk hs1; have BO1 := Aside0.mk (hk1.blk (blk_alloc BO.out _) (by decide)); have BR1 := Aside0.mk (hk1.blk (blk_alloc BR.out _) (by decide)); have HA1 := Aside0.mk (R_KT (Kd.R_alloc HA.out _) hk1 (by decide)); obtain ⟨⟨oz0, oz1, oz2⟩, of0, of1, of2⟩ := c3 BO1.out; have lt4 := blk_lt BO1.out; clear hs1 hk1; unfold anc vc; simp only [List.cons_append, List.nil_append]) | (at_builtin; (refine Kd.R_append k60 (w0 := w) w.heap.size (by rfl) (.tmp 25) (.tmp 27) 36 60 (.agg #[.int .i64 0, .int .i64 0, .int .i64 0, .int .i64 0, .float .f64 0, .string ⟨#[]⟩, .int .i64 0, .int .i64 0, .int .i64 0, .float .f64 0, .string ⟨#[]⟩, .int .i64 0]) 112 (by rfl) Tryd.underlying36 info60t (by rfl) (by decide) (by decide) (.slice aA an.length ac') an ⟨a0, a1, ⟨a2, a3, a4, a5, a6⟩, ⟨a7, a8, a9, a10, a11⟩⟩ [.int .i64 a0, .int .i64 a1, .int .i64 a2, .int .i64 a3, .float .f64 a4, .string a5, .int .i64 a6, .int .i64 a7, .int .i64 a8, .float .f64 a9, .string a10, .int .i64 a11] tt (fun _ => False) (by rfl) (by first | rfl | simp [Act.eval, Act.put]) (k60_mkM _ _ _ ⟨a0, a1, ⟨a2, a3, a4, a5, a6⟩, ⟨a7, a8, a9, a10, a11⟩⟩) (fun _ hk => hk.elim) (fun _ _ => trivial) (Kd.R_alloc HA1.out _) (below_alloc HS1.out.B _) (below_alloc HS1.out.B _).size (by have := HAL.out; omega) ?_; intro av2 w2 hr2 hb2 hg2 _; obtain ⟨lA, lc, le⟩ := Kd.R_slice hr2; subst le; have hk2 : KT [60] (w1.alloc _) w2 := KT.grown hg2 (fun k hk => by obtain ⟨cs, hc⟩ := Kd.R_typed (Kd.R_alloc HA1.out _) k hk; exact ⟨cs, _, hc, by simp⟩); have HS2 := Aside0.mk ((HS1.out.below (below_alloc (Below.refl _ _) _)).kt hk2 hb2 (by decide) (by decide) (by decide)); have BO2 := Aside0.mk (hk2.blk (blk_alloc BO1.out _) (by decide)); have BR2 := Aside0.mk (hk2.blk (blk_alloc BR1.out _) (by decide)); have HA2 := Aside0.mk hr2; clear hk2 hr2 hb2 hg2; obtain ⟨⟨pz0, pz1, pz2⟩, pf0, pf1, pf2⟩ := c3 BO2.out; have lt5 := blk_lt BO2.out)))
      go_roundg d
      case measure => omega
      case rel =>
        have hk3 : KT [39] w2 (w2.setCell ⟨w.heap.size + 2, 1, none⟩ (.slice lA (an ++ [(⟨a0, a1, ⟨a2, a3, a4, a5, a6⟩, ⟨a7, a8, a9, a10, a11⟩⟩ : S60)]).length lc)) := KT.set BO2.out (by simp) _
        refine ⟨i + 1, .slice lA (an ++ [(⟨a0, a1, ⟨a2, a3, a4, a5, a6⟩, ⟨a7, a8, a9, a10, a11⟩⟩ : S60)]).length lc, tv1, sv1, by first | rfl | (rw [q3]; done) | simp, ⟨by have := HD.out; omega⟩, ⟨?_⟩, ⟨?_⟩, ⟨?_⟩, ⟨?_⟩⟩
        · rw [HPL.out]; first | exact HS2.out.kt hk3 (HS2.out.B.setCell (Nat.le_add_right _ 2) _) (by decide) (by decide) (by decide) | (simpa using HS2.out.kt hk3 (HS2.out.B.setCell (Nat.le_add_right _ 2) _) (by decide) (by decide) (by decide))
        · simpa using blk_set BO2.out 1 (.slice lA (an ++ [(⟨a0, a1, ⟨a2, a3, a4, a5, a6⟩, ⟨a7, a8, a9, a10, a11⟩⟩ : S60)]).length lc)
        · exact (Below.heap_setCell w2 ⟨w.heap.size + 2, 1, none⟩ _ w.heap.size (by simp)).trans BR2.out
        · rw [HPL.out]; first | exact R_KT HA2.out hk3 (by decide) | simpa using R_KT HA2.out hk3 (by decide)
theorem runS_calls (acts : List S31) (A : Option Addr) (c : Nat) (w : World) (hr : Kd.C k31 w A acts.length acts) : Calls Tryd.prog 10 #[.slice A acts.length c] w (IdealOut w (idealM idxL acts)) := by
  unfold idealM
  split
  · exact runS_long acts (by assumption) A c w
  · exact runS_short acts (by omega) A c w hr
end Go.Proofs.YtclploookcjcbaaDoor.PIde
namespace Go.Proofs.YtclploookcjcbaaDoor.PIde
open Go.RowKit Go.Proofs.YtclploookcjcbaaDoorW.PrintWords Go.Proofs.YtclploookcjcbaaDoorW.PrintLast Go.Proofs.YtclploookcjcbaaDoorW.PrintMore
attribute [local go_sem] max2_int min2_int max_two min_two max_three min_three max_four min_four   -- for this text's walks alone
set_option linter.unusedVariables false
set_option linter.unusedSimpArgs false
def numF (f n most bit : Int) : Bool := if (bits BinOp.and IntKind.i64 f bit == 0) = true then n == 0 else decide (0 ≤ n) && decide (n ≤ most)
def valF (f bit kind : Int) (b : Bool) : Bool := b && (!(bits BinOp.and IntKind.i64 f bit == 0) || kind == 0)
theorem num_calls (f n most bit : Int) (g : Nat) (w : World) (hc : w.cell? ⟨g, 0, none⟩ = some (.int .i64 f)) :
    Calls Tryd.prog 22 #[.int .i64 n, .int .i64 most, .int .i64 bit, .pointer (some ⟨g, 0, none⟩)] w fun e w' => e = .returned (.bool (numF f n most bit)) ∧ w' = w := by
  unfold numF
  go_enter Tryd.func22, Tryd.ntmps22
  go_wp2
  all_goals
    go_ret
    exact ⟨by first | (simp [*]; done) | (simp [*]; omega) | (simp [*]; intros; omega), rfl⟩
set_option maxHeartbeats 2000000 in
set_option maxRecDepth 100000 in
theorem val_calls (f bit : Int) (v : S29) (g : Nat) (w : World) (hc : w.cell? ⟨g, 0, none⟩ = some (.int .i64 f)) :
    Calls Tryd.prog 23 #[.agg (vc v).toArray, .int .i64 bit, .pointer (some ⟨g, 0, none⟩)] w fun e w' => e = .returned (.bool (valF f bit v.f0 (vB v))) ∧ Below w.heap.size w w' := by
  obtain ⟨a0, a1, a2, a3, a4⟩ := v
  unfold vc valF
  simp only []
  have hlt := World.block_lt_of_cell? w _ hc
  have hu := Tryd.underlying29
  go_enter Tryd.func23, Tryd.ntmps23
  go_wp2_with (go_at_call 24; refine (valid_calls ⟨_, _, _, _, _⟩ _).mono ?_; rintro e w1 ⟨rfl, hb⟩; have z0 : w1.cell? ⟨w.heap.size, 0, none⟩ = some (.int .i64 a0) := (bx hb 0).trans rfl; have zf : w1.cell? ⟨g, 0, none⟩ = some (.int .i64 f) := ((bxB hb).cell hlt).trans hc)
  all_goals
    go_ret
    exact ⟨by simp_all, bxB (by assumption)⟩
/-- The table of fields. -/
def tabF (op : Int) : Int := ([0, 0, 25, 9, 5, 1, 1, 8, 3, 19] : List Int).getD op.toNat 0
/-- The program's table lies as its text lays it. -/
def Lies (w : World) : Prop := 0 < w.heap.size ∧ ∀ i : Nat, i < 10 → w.cell? ⟨0, i, none⟩ = some (.int .i64 (tabF i))
theorem Lies.below {w w' : World} (h : Lies w) (hb : Below w.heap.size w w') : Lies w' := ⟨Nat.lt_of_lt_of_le h.1 hb.size, fun i hi => (hb.cell (World.block_lt_of_cell? w _ (h.2 i hi))).trans (h.2 i hi)⟩
def iB (x : S31) : Bool := if x.f0 < 1 then false else if 9 < x.f0 then false else
  numF (tabF x.f0) x.f1 99 1 && (numF (tabF x.f0) x.f2 49 2 && (numF (tabF x.f0) x.f3 1000000000000 4 && (valF (tabF x.f0) 8 x.f4.f0 (vB x.f4) && (valF (tabF x.f0) 16 x.f5.f0 (vB x.f5) && (x.f0 != 7 || x.f4.f0 == 4)))))
set_option maxHeartbeats 8000000 in
set_option maxRecDepth 100000 in
theorem implAct_calls (x : S31) (w : World) (hG : Lies w) : Calls Tryd.prog 8 #[.agg (ac x).toArray] w fun e w' => e = .returned (.bool (iB x)) ∧ Below w.heap.size w w' := by
  obtain ⟨x0, x1, x2, x3, ⟨k0, k1, k2, k3, k4⟩, ⟨v0, v1, v2, v3, v4⟩⟩ := x
  show Calls Tryd.prog 8 #[.agg #[.int .i64 x0, .int .i64 x1, .int .i64 x2, .int .i64 x3, .int .i64 k0, .int .i64 k1, .float .f64 k2, .string k3, .int .i64 k4, .int .i64 v0, .int .i64 v1, .float .f64 v2, .string v3, .int .i64 v4]] w _
  have hu := Tryd.underlying29
  have hu2 := Tryd.underlying31
  have hu3 := Tryd.underlying52
  by_cases c1 : x0 < 1
  · rw [show iB ⟨x0, x1, x2, x3, ⟨k0, k1, k2, k3, k4⟩, ⟨v0, v1, v2, v3, v4⟩⟩ = false from if_pos c1]
    have c1b := decide_eq_true c1
    go_enter Tryd.func8, Tryd.ntmps8
    go_wp2
    go_ret
    exact ⟨rfl, below_alloc (Below.refl _ _) _⟩
  by_cases c2 : 9 < x0
  · rw [show iB ⟨x0, x1, x2, x3, ⟨k0, k1, k2, k3, k4⟩, ⟨v0, v1, v2, v3, v4⟩⟩ = false from (if_neg c1).trans (if_pos c2)]
    have c1b := decide_eq_false c1
    have c2b := decide_eq_true c2
    go_enter Tryd.func8, Tryd.ntmps8
    go_wp2
    go_ret
    exact ⟨rfl, below_alloc (Below.refl _ _) _⟩
  rw [show iB ⟨x0, x1, x2, x3, ⟨k0, k1, k2, k3, k4⟩, ⟨v0, v1, v2, v3, v4⟩⟩ = _ from (if_neg c1).trans (if_neg c2)]
  simp only []
  have c1b := decide_eq_false c1
  have c2b := decide_eq_false c2
  have hT : (w.alloc (.cells #[.int .i64 x0, .int .i64 x1, .int .i64 x2, .int .i64 x3, .int .i64 k0, .int .i64 k1, .float .f64 k2, .string k3, .int .i64 k4, .int .i64 v0, .int .i64 v1, .float .f64 v2, .string v3, .int .i64 v4] 31)).cell? ⟨0, x0.toNat, none⟩ = some (.int .i64 (tabF x0)) := by
    have h := hG.2 x0.toNat (by omega)
    rw [Int.toNat_of_nonneg (by omega)] at h
    exact ((below_alloc (Below.refl w.heap.size w) _).cell (World.block_lt_of_cell? w _ h)).trans h
  have h0a : (0 ≤ x0) = True := eq_true (by omega)
  have h0b : (x0 < 10) = True := eq_true (by omega)
  generalize tabF x0 = f at hT ⊢
  clear hG
  go_enter Tryd.func8, Tryd.ntmps8
  go_upto_region 4 with fail
  obtain ⟨W, hW⟩ : ∃ W, W = (w.alloc (.cells #[.int .i64 x0, .int .i64 x1, .int .i64 x2, .int .i64 x3, .int .i64 k0, .int .i64 k1, .float .f64 k2, .string k3, .int .i64 k4, .int .i64 v0, .int .i64 v1, .float .f64 v2, .string v3, .int .i64 v4] 31)).alloc (.cells #[.int .i64 f] 3) := ⟨_, rfl⟩
  have HB := Aside0.mk (show Below w.heap.size w W by rw [hW]; exact below_alloc (below_alloc (Below.refl _ _) _) _)
  have BKA := Aside0.mk (show W.heap[w.heap.size]? = some (.cells #[.int .i64 x0, .int .i64 x1, .int .i64 x2, .int .i64 x3, .int .i64 k0, .int .i64 k1, .float .f64 k2, .string k3, .int .i64 k4, .int .i64 v0, .int .i64 v1, .float .f64 v2, .string v3, .int .i64 v4] 31 (0, 0)) by rw [hW]; exact blk_below (heap_alloc_new w _) (below_alloc (Below.refl _ _) _))
  have BKF := Aside0.mk (show W.heap[w.heap.size + 1]? = some (.cells #[.int .i64 f] 3 (0, 0)) by rw [hW]; simpa using heap_alloc_new (w.alloc (.cells #[.int .i64 x0, .int .i64 x1, .int .i64 x2, .int .i64 x3, .int .i64 k0, .int .i64 k1, .float .f64 k2, .string k3, .int .i64 k4, .int .i64 v0, .int .i64 v1, .float .f64 v2, .string v3, .int .i64 v4] 31)) (.cells #[.int .i64 f] 3))
  rw [← hW]
  obtain ⟨z0, z1, z2, z3, z4, z5, z6, z7, z8, z9, z10, z11, z12, z13⟩ := c14 BKA.out
  have zf : W.cell? ⟨w.heap.size + 1, 0, none⟩ = some (.int .i64 f) := (blk_cell BKF.out 0).trans rfl
  clear hT hW
  go_wp2_with (first | (go_at_call 22; refine (num_calls f _ _ _ (w.heap.size + 1) _ zf).mono ?_; rintro e w1 ⟨rfl, rfl⟩) | (go_at_call 23; refine (val_calls f _ ⟨_, _, _, _, _⟩ (w.heap.size + 1) _ zf).mono ?_; rintro e w1 ⟨rfl, hb⟩; have n0 := Aside0.mk (blk_below BKA.out hb); have n1 := Aside0.mk (blk_below BKF.out hb); have n2 := Aside0.mk (below_step HB.out hb); clear BKA BKF HB hb; have BKA := n0; have BKF := n1; have HB := n2; clear n0 n1 n2; obtain ⟨z0, z1, z2, z3, z4, z5, z6, z7, z8, z9, z10, z11, z12, z13⟩ := c14 BKA.out; have zf : w1.cell? ⟨w.heap.size + 1, 0, none⟩ = some (.int .i64 f) := (blk_cell BKF.out 0).trans rfl))
  all_goals
    go_ret
    refine ⟨?_, HB.out⟩
  all_goals clear HB BKA BKF hu hu2 hu3
  all_goals refine congrArg (fun b => Ending.returned (Value.bool b)) ?_
  all_goals simp [*]
end Go.Proofs.YtclploookcjcbaaDoor.PIde
namespace Go.Proofs.YtclploookcjcbaaDoor.PIde
open Go Go.RowKit Go.Proofs.YtclploookcjcbaaDoorW.PrintWords
theorem bt0_1 : (bits BinOp.and IntKind.i64 0 1 == 0) = true := by first | rfl | kernel_rfl
theorem bt0_2 : (bits BinOp.and IntKind.i64 0 2 == 0) = true := by first | rfl | kernel_rfl
theorem bt0_4 : (bits BinOp.and IntKind.i64 0 4 == 0) = true := by first | rfl | kernel_rfl
theorem bt0_8 : (bits BinOp.and IntKind.i64 0 8 == 0) = true := by first | rfl | kernel_rfl
theorem bt0_16 : (bits BinOp.and IntKind.i64 0 16 == 0) = true := by first | rfl | kernel_rfl
theorem bt1_1 : (bits BinOp.and IntKind.i64 1 1 == 0) = false := by first | rfl | kernel_rfl
theorem bt1_2 : (bits BinOp.and IntKind.i64 1 2 == 0) = true := by first | rfl | kernel_rfl
theorem bt1_4 : (bits BinOp.and IntKind.i64 1 4 == 0) = true := by first | rfl | kernel_rfl
theorem bt1_8 : (bits BinOp.and IntKind.i64 1 8 == 0) = true := by first | rfl | kernel_rfl
theorem bt1_16 : (bits BinOp.and IntKind.i64 1 16 == 0) = true := by first | rfl | kernel_rfl
theorem bt3_1 : (bits BinOp.and IntKind.i64 3 1 == 0) = false := by first | rfl | kernel_rfl
theorem bt3_2 : (bits BinOp.and IntKind.i64 3 2 == 0) = false := by first | rfl | kernel_rfl
theorem bt3_4 : (bits BinOp.and IntKind.i64 3 4 == 0) = true := by first | rfl | kernel_rfl
theorem bt3_8 : (bits BinOp.and IntKind.i64 3 8 == 0) = true := by first | rfl | kernel_rfl
theorem bt3_16 : (bits BinOp.and IntKind.i64 3 16 == 0) = true := by first | rfl | kernel_rfl
theorem bt5_1 : (bits BinOp.and IntKind.i64 5 1 == 0) = false := by first | rfl | kernel_rfl
theorem bt5_2 : (bits BinOp.and IntKind.i64 5 2 == 0) = true := by first | rfl | kernel_rfl
theorem bt5_4 : (bits BinOp.and IntKind.i64 5 4 == 0) = false := by first | rfl | kernel_rfl
theorem bt5_8 : (bits BinOp.and IntKind.i64 5 8 == 0) = true := by first | rfl | kernel_rfl
theorem bt5_16 : (bits BinOp.and IntKind.i64 5 16 == 0) = true := by first | rfl | kernel_rfl
theorem bt8_1 : (bits BinOp.and IntKind.i64 8 1 == 0) = true := by first | rfl | kernel_rfl
theorem bt8_2 : (bits BinOp.and IntKind.i64 8 2 == 0) = true := by first | rfl | kernel_rfl
theorem bt8_4 : (bits BinOp.and IntKind.i64 8 4 == 0) = true := by first | rfl | kernel_rfl
theorem bt8_8 : (bits BinOp.and IntKind.i64 8 8 == 0) = false := by first | rfl | kernel_rfl
theorem bt8_16 : (bits BinOp.and IntKind.i64 8 16 == 0) = true := by first | rfl | kernel_rfl
theorem bt9_1 : (bits BinOp.and IntKind.i64 9 1 == 0) = false := by first | rfl | kernel_rfl
theorem bt9_2 : (bits BinOp.and IntKind.i64 9 2 == 0) = true := by first | rfl | kernel_rfl
theorem bt9_4 : (bits BinOp.and IntKind.i64 9 4 == 0) = true := by first | rfl | kernel_rfl
theorem bt9_8 : (bits BinOp.and IntKind.i64 9 8 == 0) = false := by first | rfl | kernel_rfl
theorem bt9_16 : (bits BinOp.and IntKind.i64 9 16 == 0) = true := by first | rfl | kernel_rfl
theorem bt19_1 : (bits BinOp.and IntKind.i64 19 1 == 0) = false := by first | rfl | kernel_rfl
theorem bt19_2 : (bits BinOp.and IntKind.i64 19 2 == 0) = false := by first | rfl | kernel_rfl
theorem bt19_4 : (bits BinOp.and IntKind.i64 19 4 == 0) = true := by first | rfl | kernel_rfl
theorem bt19_8 : (bits BinOp.and IntKind.i64 19 8 == 0) = true := by first | rfl | kernel_rfl
theorem bt19_16 : (bits BinOp.and IntKind.i64 19 16 == 0) = false := by first | rfl | kernel_rfl
theorem bt25_1 : (bits BinOp.and IntKind.i64 25 1 == 0) = false := by first | rfl | kernel_rfl
theorem bt25_2 : (bits BinOp.and IntKind.i64 25 2 == 0) = true := by first | rfl | kernel_rfl
theorem bt25_4 : (bits BinOp.and IntKind.i64 25 4 == 0) = true := by first | rfl | kernel_rfl
theorem bt25_8 : (bits BinOp.and IntKind.i64 25 8 == 0) = false := by first | rfl | kernel_rfl
theorem bt25_16 : (bits BinOp.and IntKind.i64 25 16 == 0) = false := by first | rfl | kernel_rfl
theorem numF_eq (f n most bit : Int) (hm : 0 ≤ most) : numF f n most bit = (inR n (most + 1) && (!(bits BinOp.and IntKind.i64 f bit == 0) || n == 0)) := by
  unfold numF inR
  rw [show decide (n < most + 1) = decide (n ≤ most) from decide_eq_decide.mpr (by omega)]
  cases h : (bits BinOp.and IntKind.i64 f bit == 0)
  · simp
  · by_cases h0 : n = 0
    · subst h0; simp [hm]
    · simp [h0]
theorem act_eq (x : S31) : iB x = aB x := by
  obtain ⟨x0, x1, x2, x3, k, v⟩ := x
  unfold iB aB tB bB noneB
  simp only []
  rw [numF_eq _ _ _ _ (by omega), numF_eq _ _ _ _ (by omega), numF_eq _ _ _ _ (by omega)]
  unfold valF
  rw [show (99 : Int) + 1 = 100 from rfl, show (49 : Int) + 1 = 50 from rfl, show (1000000000000 : Int) + 1 = 1000000000001 from rfl]
  generalize inR x1 100 = r1
  generalize inR x2 50 = r2
  generalize inR x3 1000000000001 = r3
  generalize (k.f0 == 4) = u4
  generalize (x1 == 0) = u1
  generalize (x2 == 0) = u2
  generalize (x3 == 0) = u3
  generalize (k.f0 == 0) = u5
  generalize (v.f0 == 0) = u6
  generalize vB k = bK
  generalize vB v = bV
  have hc : x0 < 1 ∨ 9 < x0 ∨ x0 = 1 ∨ x0 = 2 ∨ x0 = 3 ∨ x0 = 4 ∨ x0 = 5 ∨ x0 = 6 ∨ x0 = 7 ∨ x0 = 8 ∨ x0 = 9 := by omega
  rcases hc with h | h | rfl | rfl | rfl | rfl | rfl | rfl | rfl | rfl | rfl
  · rw [if_pos h, if_neg (by omega), if_neg (by omega), if_neg (by omega), if_neg (by omega), if_neg (by omega), if_neg (by omega), if_neg (by omega), if_neg (by omega), if_neg (by omega)]
    simp
  · rw [if_neg (by omega), if_pos h, if_neg (by omega), if_neg (by omega), if_neg (by omega), if_neg (by omega), if_neg (by omega), if_neg (by omega), if_neg (by omega), if_neg (by omega), if_neg (by omega)]
    simp
  all_goals
    simp only [show tabF 1 = 0 from rfl, show tabF 2 = 25 from rfl, show tabF 3 = 9 from rfl, show tabF 4 = 5 from rfl, show tabF 5 = 1 from rfl, show tabF 6 = 1 from rfl, show tabF 7 = 8 from rfl, show tabF 8 = 3 from rfl, show tabF 9 = 19 from rfl, bt0_1, bt0_2, bt0_4, bt0_8, bt0_16, bt1_1, bt1_2, bt1_4, bt1_8, bt1_16, bt3_1, bt3_2, bt3_4, bt3_8, bt3_16, bt5_1, bt5_2, bt5_4, bt5_8, bt5_16, bt8_1, bt8_2, bt8_4, bt8_8, bt8_16, bt9_1, bt9_2, bt9_4, bt9_8, bt9_16, bt19_1, bt19_2, bt19_4, bt19_8, bt19_16, bt25_1, bt25_2, bt25_4, bt25_8, bt25_16, Int.reduceLT, Int.reduceEq, if_true, if_false, bne_self_eq_false, Bool.false_or, Int.reduceBNe]
    revert r1 r2 r3 bK bV u1 u2 u3 u4 u5 u6
    decide +kernel
end Go.Proofs.YtclploookcjcbaaDoor.PIde
namespace Go.Proofs.YtclploookcjcbaaDoor.PIde
open Go.RowKit Go.Proofs.YtclploookcjcbaaDoorW.PrintWords Go.Proofs.YtclploookcjcbaaDoorW.PrintLast Go.Proofs.YtclploookcjcbaaDoorW.PrintMore
attribute [local go_sem] max2_int min2_int max_two min_two max_three min_three max_four min_four   -- for this text's walks alone
set_option linter.unusedVariables false
set_option linter.unusedSimpArgs false
/-- The state of the program's play: a block with the tables, a block with the sites' keys, all of the play's own; its table of fields lies as its text lays it. -/
structure ISt (w0 w : World) (base gP gS : Nat) (av tv sv : Value) (ts : List S78) (ss : List ByteArray) : Prop where
  B : Below base w0 w
  le : base ≤ w.heap.size
  P : w.heap[gP]? = some (.cells #[.bool true, av, tv] 39 (0, 0))
  Q : w.heap[gS]? = some (.cells #[sv] 56 (0, 0))
  gp : base ≤ gP
  gs : base ≤ gS
  T : Kd.S k78 78 w base tt tv ts
  S : Kd.R Kd.string 9 w base tt sv ss
  L : Lies w0
  b0 : 0 < base
section
variable {w0 w w1 : World} {base gP gS g : Nat} {av tv sv : Value} {ts : List S78} {ss : List ByteArray}
theorem ISt.lies (h : ISt w0 w base gP gS av tv sv ts ss) : Lies w := ⟨Nat.lt_of_lt_of_le h.b0 h.le, fun i hi => (h.B.cell (p := ⟨0, i, none⟩) h.b0).trans (h.L.2 i hi)⟩
theorem ISt.below (h : ISt w0 w base gP gS av tv sv ts ss) (hb : Below w.heap.size w w1) : ISt w0 w1 base gP gS av tv sv ts ss :=
  ⟨h.B.trans (hb.mono h.le), Nat.le_trans h.le hb.size, blk_below h.P hb, blk_below h.Q hb, h.gp, h.gs, Kd.S_below h.T hb, Kd.R_below h.S hb, h.L, h.b0⟩
theorem ISt.ans {cs : Array Value} (h : ISt w0 w base gP gS av tv sv ts ss) (hA : w.heap[g]? = some (.cells cs 60 (0, 0))) (hb : base ≤ g) (hg : w.grownBy w1 (some g)) : ISt w0 w1 base gP gS av tv sv ts ss := by
  have hk : KT [60] w w1 := KT.grown hg (fun k e => by injection e with e; subst e; exact ⟨cs, _, hA, by simp⟩)
  exact ⟨h.B.grown hg h.le (fun k e => by injection e with e; omega), Nat.le_trans h.le hg.size, hk.blk h.P (by simp), hk.blk h.Q (by simp), h.gp, h.gs, S_KT h.T hk (by decide), R_KT h.S hk (by decide), h.L, h.b0⟩
def stI : List Nat := [39, 56, 78, 88, 9]
/-- A step's answer and the state behind it. -/
def DoneI (w0 w : World) (base gP gS : Nat) (av : Value) (r : S60 × List S78 × List ByteArray) (e : Ending) (w' : World) : Prop := ∃ tv sv, e = .returned (.agg (anc r.1).toArray) ∧ ISt w0 w' base gP gS av tv sv r.2.1 r.2.2 ∧ KT stI w w'
theorem doneI {w3 : World} {cs : Array Value} (h : ISt w0 w3 base gP gS av tv sv ts ss) (hk : KT stI w w3) (hA : w3.heap[g]? = some (.cells cs 60 (0, 0))) (hb : base ≤ g) (hn : w.heap.size ≤ g) (r : S60) :
    DoneI w0 w base gP gS av (r, ts, ss) (.returned (.agg (anc r).toArray)) (w3.setCells g 0 (anc r)) :=
  ⟨tv, sv, rfl, h.ans hA hb (grown_setCells _ _ _ _), hk.new (grown_setCells _ _ _ _) hn⟩
theorem DoneI.alloc {w3 : World} {r : S60 × List S78 × List ByteArray} {e : Ending} (h : DoneI w0 w base gP gS av r e w3) (o : Obj) : DoneI w0 w base gP gS av r e (w3.alloc o) := by
  obtain ⟨tv, sv, h1, h2, h3⟩ := h
  exact ⟨tv, sv, h1, h2.below (below_alloc (Below.refl _ _) _), h3.trans (KT.below (below_alloc (Below.refl _ _) _))⟩
end
theorem tab_1 {n : Int} (h : n = 1 ∨ n = 2 ∨ n = 3 ∨ n = 4 ∨ n = 5 ∨ n = 6 ∨ n = 7 ∨ n = 8 ∨ n = 9) : (bits BinOp.and IntKind.i64 (tabF n) 1 == 0) = (n == 1 || n == 7) := by
  rcases h with rfl | rfl | rfl | rfl | rfl | rfl | rfl | rfl | rfl <;> first | rfl | kernel_rfl
theorem tab_2 {n : Int} (h : n = 1 ∨ n = 2 ∨ n = 3 ∨ n = 4 ∨ n = 5 ∨ n = 6 ∨ n = 7 ∨ n = 8 ∨ n = 9) : (bits BinOp.and IntKind.i64 (tabF n) 2 == 0) = !(n == 8 || n == 9) := by
  rcases h with rfl | rfl | rfl | rfl | rfl | rfl | rfl | rfl | rfl <;> first | rfl | kernel_rfl
set_option maxHeartbeats 8000000 in
set_option maxRecDepth 100000 in
theorem doI_bad1 (w0 w : World) (base gP gS : Nat) (av tv sv : Value) (ts : List S78) (ss : List ByteArray) (x : S31) (hs : ISt w0 w base gP gS av tv sv ts ss) (hok : aB x = false) :
    Calls Tryd.prog 26 #[.pointer (some ⟨gP, 0, none⟩), .agg (ac x).toArray, .pointer (some ⟨gS, 0, none⟩)] w (DoneI w0 w base gP gS av (codeA 1, ts, ss)) := by
  obtain ⟨tA, tc, rfl⟩ := Kd.S_slice hs.T
  obtain ⟨sA, sc, rfl⟩ := Kd.R_slice hs.S
  have HS := Aside0.mk hs
  obtain ⟨x0, x1, x2, x3, ⟨k0, k1, k2, k3, k4⟩, ⟨v0, v1, v2, v3, v4⟩⟩ := x
  show Calls Tryd.prog 26 #[.pointer (some ⟨gP, 0, none⟩), .agg #[.int .i64 x0, .int .i64 x1, .int .i64 x2, .int .i64 x3, .int .i64 k0, .int .i64 k1, .float .f64 k2, .string k3, .int .i64 k4, .int .i64 v0, .int .i64 v1, .float .f64 v2, .string v3, .int .i64 v4], .pointer (some ⟨gS, 0, none⟩)] w _
  have HB := Aside0.mk (below_alloc (below_alloc (Below.refl w.heap.size w) (.cells #[.int .i64 x0, .int .i64 x1, .int .i64 x2, .int .i64 x3, .int .i64 k0, .int .i64 k1, .float .f64 k2, .string k3, .int .i64 k4, .int .i64 v0, .int .i64 v1, .float .f64 v2, .string v3, .int .i64 v4] 31)) (.cells #[.int .i64 0, .int .i64 0, .int .i64 0, .int .i64 0, .float .f64 0, .string ⟨#[]⟩, .int .i64 0, .int .i64 0, .int .i64 0, .float .f64 0, .string ⟨#[]⟩, .int .i64 0] 60))
  have BX := Aside0.mk (heap_alloc2_old w (.cells #[.int .i64 x0, .int .i64 x1, .int .i64 x2, .int .i64 x3, .int .i64 k0, .int .i64 k1, .float .f64 k2, .string k3, .int .i64 k4, .int .i64 v0, .int .i64 v1, .float .f64 v2, .string v3, .int .i64 v4] 31) (.cells #[.int .i64 0, .int .i64 0, .int .i64 0, .int .i64 0, .float .f64 0, .string ⟨#[]⟩, .int .i64 0, .int .i64 0, .int .i64 0, .float .f64 0, .string ⟨#[]⟩, .int .i64 0] 60))
  have BA := Aside0.mk (heap_alloc2_new w (.cells #[.int .i64 x0, .int .i64 x1, .int .i64 x2, .int .i64 x3, .int .i64 k0, .int .i64 k1, .float .f64 k2, .string k3, .int .i64 k4, .int .i64 v0, .int .i64 v1, .float .f64 v2, .string v3, .int .i64 v4] 31) (.cells #[.int .i64 0, .int .i64 0, .int .i64 0, .int .i64 0, .float .f64 0, .string ⟨#[]⟩, .int .i64 0, .int .i64 0, .int .i64 0, .float .f64 0, .string ⟨#[]⟩, .int .i64 0] 60))
  have LE := hs.le
  have lt1 := blk_lt hs.P
  have ltq := blk_lt hs.Q
  have HA : Aside0 (∀ w1, Lies w1 → Calls Tryd.prog 8 #[.agg #[.int .i64 x0, .int .i64 x1, .int .i64 x2, .int .i64 x3, .int .i64 k0, .int .i64 k1, .float .f64 k2, .string k3, .int .i64 k4, .int .i64 v0, .int .i64 v1, .float .f64 v2, .string v3, .int .i64 v4]] w1 fun e w' => e = .returned (.bool false) ∧ Below w1.heap.size w1 w') := ⟨fun w1 hl => by have := implAct_calls ⟨x0, x1, x2, x3, ⟨k0, k1, k2, k3, k4⟩, ⟨v0, v1, v2, v3, v4⟩⟩ w1 hl; rw [act_eq, hok] at this; exact this⟩
  clear hok
  have hu := Tryd.underlying29
  have hu2 := Tryd.underlying31
  have hu3 := Tryd.underlying39
  have hu4 := Tryd.underlying37
  have hu5 := Tryd.underlying60
  have hu6 := Tryd.underlying74
  have hu7 := Tryd.underlying78
  have hu8 := Tryd.underlying88
  have hu9 := Tryd.underlying52
  have hu10 := Tryd.underlying56
  go_enter Tryd.func26, Tryd.ntmps26
  go_wp2_with (go_at_call 8; refine (HA.out _ (HS.out.below HB.out).lies).mono ?_; rintro e w1 ⟨rfl, hb⟩; have HW := Aside0.mk (below_step HB.out hb); have BX1 := Aside0.mk (blk_below BX.out hb); have BA1 := Aside0.mk (blk_below BA.out hb); have HS1 := Aside0.mk (HS.out.below HW.out); clear HB BX BA HA hb HS; obtain ⟨xz0, xz1, xz2, xz3, xz4, xz5, xz6, xz7, xz8, xz9, xz10, xz11, xz12, xz13⟩ := c14 BX1.out; obtain ⟨⟨az0, az1, az2, az3, az4, az5, az6, az7, az8, az9, az10, az11⟩, af0, af1, af2, af3, af4, af5, af6, af7, af8, af9, af10, af11⟩ := c12 BA1.out; have mz2 := (blk_cell HS1.out.P 2).trans (show _ = some _ from rfl); have nz0 := (blk_cell HS1.out.Q 0).trans (show _ = some _ from rfl); have lt2 := blk_lt BA1.out; skip)
  exact bodyPost_ret (ret60 rfl rfl (set12 BA1.out)) rfl (doneI HS1.out (KT.below HW.out) BA1.out (by omega) (by omega) (codeA 1))
set_option maxHeartbeats 8000000 in
set_option maxRecDepth 100000 in
theorem doI_bad2 (w0 w : World) (base gP gS : Nat) (av tv sv : Value) (ts : List S78) (ss : List ByteArray) (x : S31) (hs : ISt w0 w base gP gS av tv sv ts ss) (hok : aB x = true) (h9 : x.f0 = 1 ∨ x.f0 = 2 ∨ x.f0 = 3 ∨ x.f0 = 4 ∨ x.f0 = 5 ∨ x.f0 = 6 ∨ x.f0 = 7 ∨ x.f0 = 8 ∨ x.f0 = 9) (hw : x.f0 ≠ 1 ∧ x.f0 ≠ 7) (hge : (ts.length : Int) ≤ x.f1) :
    Calls Tryd.prog 26 #[.pointer (some ⟨gP, 0, none⟩), .agg (ac x).toArray, .pointer (some ⟨gS, 0, none⟩)] w (DoneI w0 w base gP gS av (codeA 2, ts, ss)) := by
  obtain ⟨tA, tc, rfl⟩ := Kd.S_slice hs.T
  obtain ⟨sA, sc, rfl⟩ := Kd.R_slice hs.S
  have HS := Aside0.mk hs
  obtain ⟨x0, x1, x2, x3, ⟨k0, k1, k2, k3, k4⟩, ⟨v0, v1, v2, v3, v4⟩⟩ := x
  simp only [] at hw hge h9
  have hb1 : (bits BinOp.and IntKind.i64 (tabF x0) 1 == 0) = false := by rw [tab_1 h9]; simp [hw.1, hw.2]
  have hb1n := bne_f hb1
  have hq0 : 0 ≤ x0 := by omega
  have hq1 : x0 < 10 := by omega
  have hq0t : (0 ≤ x0) = True := eq_true hq0
  have hq1t : (x0 < 10) = True := eq_true hq1
  clear hw h9
  have FZ := Aside0.mk (fun w1 (hl : Lies w1) => by have := hl.2 x0.toNat (by omega); rwa [Int.toNat_of_nonneg hq0] at this)
  generalize tabF x0 = ff at *
  show Calls Tryd.prog 26 #[.pointer (some ⟨gP, 0, none⟩), .agg #[.int .i64 x0, .int .i64 x1, .int .i64 x2, .int .i64 x3, .int .i64 k0, .int .i64 k1, .float .f64 k2, .string k3, .int .i64 k4, .int .i64 v0, .int .i64 v1, .float .f64 v2, .string v3, .int .i64 v4], .pointer (some ⟨gS, 0, none⟩)] w _
  have HB := Aside0.mk (below_alloc (below_alloc (Below.refl w.heap.size w) (.cells #[.int .i64 x0, .int .i64 x1, .int .i64 x2, .int .i64 x3, .int .i64 k0, .int .i64 k1, .float .f64 k2, .string k3, .int .i64 k4, .int .i64 v0, .int .i64 v1, .float .f64 v2, .string v3, .int .i64 v4] 31)) (.cells #[.int .i64 0, .int .i64 0, .int .i64 0, .int .i64 0, .float .f64 0, .string ⟨#[]⟩, .int .i64 0, .int .i64 0, .int .i64 0, .float .f64 0, .string ⟨#[]⟩, .int .i64 0] 60))
  have BX := Aside0.mk (heap_alloc2_old w (.cells #[.int .i64 x0, .int .i64 x1, .int .i64 x2, .int .i64 x3, .int .i64 k0, .int .i64 k1, .float .f64 k2, .string k3, .int .i64 k4, .int .i64 v0, .int .i64 v1, .float .f64 v2, .string v3, .int .i64 v4] 31) (.cells #[.int .i64 0, .int .i64 0, .int .i64 0, .int .i64 0, .float .f64 0, .string ⟨#[]⟩, .int .i64 0, .int .i64 0, .int .i64 0, .float .f64 0, .string ⟨#[]⟩, .int .i64 0] 60))
  have BA := Aside0.mk (heap_alloc2_new w (.cells #[.int .i64 x0, .int .i64 x1, .int .i64 x2, .int .i64 x3, .int .i64 k0, .int .i64 k1, .float .f64 k2, .string k3, .int .i64 k4, .int .i64 v0, .int .i64 v1, .float .f64 v2, .string v3, .int .i64 v4] 31) (.cells #[.int .i64 0, .int .i64 0, .int .i64 0, .int .i64 0, .float .f64 0, .string ⟨#[]⟩, .int .i64 0, .int .i64 0, .int .i64 0, .float .f64 0, .string ⟨#[]⟩, .int .i64 0] 60))
  have LE := hs.le
  have lt1 := blk_lt hs.P
  have ltq := blk_lt hs.Q
  have HA : Aside0 (∀ w1, Lies w1 → Calls Tryd.prog 8 #[.agg #[.int .i64 x0, .int .i64 x1, .int .i64 x2, .int .i64 x3, .int .i64 k0, .int .i64 k1, .float .f64 k2, .string k3, .int .i64 k4, .int .i64 v0, .int .i64 v1, .float .f64 v2, .string v3, .int .i64 v4]] w1 fun e w' => e = .returned (.bool true) ∧ Below w1.heap.size w1 w') := ⟨fun w1 hl => by have := implAct_calls ⟨x0, x1, x2, x3, ⟨k0, k1, k2, k3, k4⟩, ⟨v0, v1, v2, v3, v4⟩⟩ w1 hl; rw [act_eq, hok] at this; exact this⟩
  clear hok
  have hu := Tryd.underlying29
  have hu2 := Tryd.underlying31
  have hu3 := Tryd.underlying39
  have hu4 := Tryd.underlying37
  have hu5 := Tryd.underlying60
  have hu6 := Tryd.underlying74
  have hu7 := Tryd.underlying78
  have hu8 := Tryd.underlying88
  have hu9 := Tryd.underlying52
  have hu10 := Tryd.underlying56
  go_enter Tryd.func26, Tryd.ntmps26
  go_wp2_with (go_at_call 8; refine (HA.out _ (HS.out.below HB.out).lies).mono ?_; rintro e w1 ⟨rfl, hb⟩; have HW := Aside0.mk (below_step HB.out hb); have BX1 := Aside0.mk (blk_below BX.out hb); have BA1 := Aside0.mk (blk_below BA.out hb); have HS1 := Aside0.mk (HS.out.below HW.out); clear HB BX BA HA hb HS; obtain ⟨xz0, xz1, xz2, xz3, xz4, xz5, xz6, xz7, xz8, xz9, xz10, xz11, xz12, xz13⟩ := c14 BX1.out; obtain ⟨⟨az0, az1, az2, az3, az4, az5, az6, az7, az8, az9, az10, az11⟩, af0, af1, af2, af3, af4, af5, af6, af7, af8, af9, af10, af11⟩ := c12 BA1.out; have mz2 := (blk_cell HS1.out.P 2).trans (show _ = some _ from rfl); have nz0 := (blk_cell HS1.out.Q 0).trans (show _ = some _ from rfl); have lt2 := blk_lt BA1.out; have fz := FZ.out w1 HS1.out.lies)
  go_quiet (fail)
  go_wp2
  exact bodyPost_ret (ret60 rfl rfl (set12 (blk_drewN BA1.out _))) rfl (doneI (HS1.out.below (pw_below_drewN (Below.refl _ _) _)) (KT.below (pw_below_drewN HW.out _)) (blk_drewN BA1.out _) (by omega) (by omega) (codeA 2))
end Go.Proofs.YtclploookcjcbaaDoor.PIde
namespace Go.Proofs.YtclploookcjcbaaDoor.PIde
open Go.RowKit Go.Proofs.YtclploookcjcbaaDoorW.PrintWords Go.Proofs.YtclploookcjcbaaDoorW.PrintLast Go.Proofs.YtclploookcjcbaaDoorW.PrintMore
attribute [local go_sem] max2_int min2_int max_two min_two max_three min_three max_four min_four   -- for this text's walks alone
set_option linter.unusedVariables false
set_option linter.unusedSimpArgs false
set_option maxHeartbeats 8000000 in
set_option maxRecDepth 100000 in
theorem doI_bad3 (w0 w : World) (base gP gS : Nat) (av tv sv : Value) (ts : List S78) (ss : List ByteArray) (x : S31) (hs : ISt w0 w base gP gS av tv sv ts ss) (hok : aB x = true) (hw : x.f0 = 8 ∨ x.f0 = 9) (hlt : x.f1 < (ts.length : Int)) (hge : (ss.length : Int) ≤ x.f2) :
    Calls Tryd.prog 26 #[.pointer (some ⟨gP, 0, none⟩), .agg (ac x).toArray, .pointer (some ⟨gS, 0, none⟩)] w (DoneI w0 w base gP gS av (codeA 3, ts, ss)) := by
  obtain ⟨tA, tc, rfl⟩ := Kd.S_slice hs.T
  obtain ⟨sA, sc, rfl⟩ := Kd.R_slice hs.S
  have HS := Aside0.mk hs
  obtain ⟨x0, x1, x2, x3, ⟨k0, k1, k2, k3, k4⟩, ⟨v0, v1, v2, v3, v4⟩⟩ := x
  simp only [] at hw hge hlt
  have h9 : x0 = 1 ∨ x0 = 2 ∨ x0 = 3 ∨ x0 = 4 ∨ x0 = 5 ∨ x0 = 6 ∨ x0 = 7 ∨ x0 = 8 ∨ x0 = 9 := by omega
  have hb1 : (bits BinOp.and IntKind.i64 (tabF x0) 1 == 0) = false := by rw [tab_1 h9]; rcases hw with h | h <;> subst h <;> rfl
  have hb1n := bne_f hb1
  have hb2 : (bits BinOp.and IntKind.i64 (tabF x0) 2 == 0) = false := by rw [tab_2 h9]; rcases hw with h | h <;> subst h <;> rfl
  have hb2n := bne_f hb2
  have hd := decide_eq_false (show ¬ (ts.length : Int) ≤ x1 by omega)
  have hq0 : 0 ≤ x0 := by omega
  have hq1 : x0 < 10 := by omega
  have hq0t : (0 ≤ x0) = True := eq_true hq0
  have hq1t : (x0 < 10) = True := eq_true hq1
  clear hw h9
  have FZ := Aside0.mk (fun w1 (hl : Lies w1) => by have := hl.2 x0.toNat (by omega); rwa [Int.toNat_of_nonneg hq0] at this)
  generalize tabF x0 = ff at *
  show Calls Tryd.prog 26 #[.pointer (some ⟨gP, 0, none⟩), .agg #[.int .i64 x0, .int .i64 x1, .int .i64 x2, .int .i64 x3, .int .i64 k0, .int .i64 k1, .float .f64 k2, .string k3, .int .i64 k4, .int .i64 v0, .int .i64 v1, .float .f64 v2, .string v3, .int .i64 v4], .pointer (some ⟨gS, 0, none⟩)] w _
  have HB := Aside0.mk (below_alloc (below_alloc (Below.refl w.heap.size w) (.cells #[.int .i64 x0, .int .i64 x1, .int .i64 x2, .int .i64 x3, .int .i64 k0, .int .i64 k1, .float .f64 k2, .string k3, .int .i64 k4, .int .i64 v0, .int .i64 v1, .float .f64 v2, .string v3, .int .i64 v4] 31)) (.cells #[.int .i64 0, .int .i64 0, .int .i64 0, .int .i64 0, .float .f64 0, .string ⟨#[]⟩, .int .i64 0, .int .i64 0, .int .i64 0, .float .f64 0, .string ⟨#[]⟩, .int .i64 0] 60))
  have BX := Aside0.mk (heap_alloc2_old w (.cells #[.int .i64 x0, .int .i64 x1, .int .i64 x2, .int .i64 x3, .int .i64 k0, .int .i64 k1, .float .f64 k2, .string k3, .int .i64 k4, .int .i64 v0, .int .i64 v1, .float .f64 v2, .string v3, .int .i64 v4] 31) (.cells #[.int .i64 0, .int .i64 0, .int .i64 0, .int .i64 0, .float .f64 0, .string ⟨#[]⟩, .int .i64 0, .int .i64 0, .int .i64 0, .float .f64 0, .string ⟨#[]⟩, .int .i64 0] 60))
  have BA := Aside0.mk (heap_alloc2_new w (.cells #[.int .i64 x0, .int .i64 x1, .int .i64 x2, .int .i64 x3, .int .i64 k0, .int .i64 k1, .float .f64 k2, .string k3, .int .i64 k4, .int .i64 v0, .int .i64 v1, .float .f64 v2, .string v3, .int .i64 v4] 31) (.cells #[.int .i64 0, .int .i64 0, .int .i64 0, .int .i64 0, .float .f64 0, .string ⟨#[]⟩, .int .i64 0, .int .i64 0, .int .i64 0, .float .f64 0, .string ⟨#[]⟩, .int .i64 0] 60))
  have LE := hs.le
  have lt1 := blk_lt hs.P
  have ltq := blk_lt hs.Q
  have HA : Aside0 (∀ w1, Lies w1 → Calls Tryd.prog 8 #[.agg #[.int .i64 x0, .int .i64 x1, .int .i64 x2, .int .i64 x3, .int .i64 k0, .int .i64 k1, .float .f64 k2, .string k3, .int .i64 k4, .int .i64 v0, .int .i64 v1, .float .f64 v2, .string v3, .int .i64 v4]] w1 fun e w' => e = .returned (.bool true) ∧ Below w1.heap.size w1 w') := ⟨fun w1 hl => by have := implAct_calls ⟨x0, x1, x2, x3, ⟨k0, k1, k2, k3, k4⟩, ⟨v0, v1, v2, v3, v4⟩⟩ w1 hl; rw [act_eq, hok] at this; exact this⟩
  clear hok
  have hu := Tryd.underlying29
  have hu2 := Tryd.underlying31
  have hu3 := Tryd.underlying39
  have hu4 := Tryd.underlying37
  have hu5 := Tryd.underlying60
  have hu6 := Tryd.underlying74
  have hu7 := Tryd.underlying78
  have hu8 := Tryd.underlying88
  have hu9 := Tryd.underlying52
  have hu10 := Tryd.underlying56
  go_enter Tryd.func26, Tryd.ntmps26
  go_wp2_with (go_at_call 8; refine (HA.out _ (HS.out.below HB.out).lies).mono ?_; rintro e w1 ⟨rfl, hb⟩; have HW := Aside0.mk (below_step HB.out hb); have BX1 := Aside0.mk (blk_below BX.out hb); have BA1 := Aside0.mk (blk_below BA.out hb); have HS1 := Aside0.mk (HS.out.below HW.out); clear HB BX BA HA hb HS; obtain ⟨xz0, xz1, xz2, xz3, xz4, xz5, xz6, xz7, xz8, xz9, xz10, xz11, xz12, xz13⟩ := c14 BX1.out; obtain ⟨⟨az0, az1, az2, az3, az4, az5, az6, az7, az8, az9, az10, az11⟩, af0, af1, af2, af3, af4, af5, af6, af7, af8, af9, af10, af11⟩ := c12 BA1.out; have mz2 := (blk_cell HS1.out.P 2).trans (show _ = some _ from rfl); have nz0 := (blk_cell HS1.out.Q 0).trans (show _ = some _ from rfl); have lt2 := blk_lt BA1.out; have fz := FZ.out w1 HS1.out.lies)
  go_quiet (fail)
  go_wp2
  go_quiet (fail)
  go_wp2
  exact bodyPost_ret (ret60 rfl rfl (set12 (blk_drewN BA1.out _))) rfl (doneI (HS1.out.below (pw_below_drewN (Below.refl _ _) _)) (KT.below (pw_below_drewN HW.out _)) (blk_drewN BA1.out _) (by omega) (by omega) (codeA 3))
set_option maxHeartbeats 8000000 in
set_option maxRecDepth 100000 in
theorem doI_bad4_2 (w0 w : World) (base gP gS : Nat) (av tv sv : Value) (ts : List S78) (ss : List ByteArray) (x : S31) (hs : ISt w0 w base gP gS av tv sv ts ss) (hn : x.f0 = 2) (hok : aB x = true) (hlt : x.f1 < (ts.length : Int)) (hkc : ¬ keyC x.f4 = 0) :
    Calls Tryd.prog 26 #[.pointer (some ⟨gP, 0, none⟩), .agg (ac x).toArray, .pointer (some ⟨gS, 0, none⟩)] w (DoneI w0 w base gP gS av (codeA 4, ts, ss)) := by
  obtain ⟨tA, tc, rfl⟩ := Kd.S_slice hs.T
  obtain ⟨sA, sc, rfl⟩ := Kd.R_slice hs.S
  have HS := Aside0.mk hs
  obtain ⟨x0, x1, x2, x3, ⟨k0, k1, k2, k3, k4⟩, ⟨v0, v1, v2, v3, v4⟩⟩ := x
  obtain rfl : x0 = 2 := hn
  simp only [] at hlt hkc
  have hd := decide_eq_false (show ¬ (ts.length : Int) ≤ x1 by omega)
  have HK : Aside0 (∀ w1, Calls Tryd.prog 43 #[.agg #[.int .i64 k0, .int .i64 k1, .float .f64 k2, .string k3, .int .i64 k4]] w1 fun e w' => e = .returned (.agg #[.int .i64 (keyC ⟨k0, k1, k2, k3, k4⟩), .int .i64 (keyV ⟨k0, k1, k2, k3, k4⟩).f0, .int .i64 (keyV ⟨k0, k1, k2, k3, k4⟩).f1, .float .f64 (keyV ⟨k0, k1, k2, k3, k4⟩).f2, .string (keyV ⟨k0, k1, k2, k3, k4⟩).f3, .int .i64 (keyV ⟨k0, k1, k2, k3, k4⟩).f4]) ∧ Below w1.heap.size w1 w') := ⟨fun w1 => implKey_calls ⟨k0, k1, k2, k3, k4⟩ w1⟩
  generalize keyC ⟨k0, k1, k2, k3, k4⟩ = kC at *
  generalize keyV ⟨k0, k1, k2, k3, k4⟩ = kV at *
  have hkc2 : (kC == 0) = false := beq_eq_false_iff_ne.mpr hkc
  have hkc3 := bne_f hkc2
  clear hkc
  show Calls Tryd.prog 26 #[.pointer (some ⟨gP, 0, none⟩), .agg #[.int .i64 2, .int .i64 x1, .int .i64 x2, .int .i64 x3, .int .i64 k0, .int .i64 k1, .float .f64 k2, .string k3, .int .i64 k4, .int .i64 v0, .int .i64 v1, .float .f64 v2, .string v3, .int .i64 v4], .pointer (some ⟨gS, 0, none⟩)] w _
  have HB := Aside0.mk (below_alloc (below_alloc (Below.refl w.heap.size w) (.cells #[.int .i64 2, .int .i64 x1, .int .i64 x2, .int .i64 x3, .int .i64 k0, .int .i64 k1, .float .f64 k2, .string k3, .int .i64 k4, .int .i64 v0, .int .i64 v1, .float .f64 v2, .string v3, .int .i64 v4] 31)) (.cells #[.int .i64 0, .int .i64 0, .int .i64 0, .int .i64 0, .float .f64 0, .string ⟨#[]⟩, .int .i64 0, .int .i64 0, .int .i64 0, .float .f64 0, .string ⟨#[]⟩, .int .i64 0] 60))
  have BX := Aside0.mk (heap_alloc2_old w (.cells #[.int .i64 2, .int .i64 x1, .int .i64 x2, .int .i64 x3, .int .i64 k0, .int .i64 k1, .float .f64 k2, .string k3, .int .i64 k4, .int .i64 v0, .int .i64 v1, .float .f64 v2, .string v3, .int .i64 v4] 31) (.cells #[.int .i64 0, .int .i64 0, .int .i64 0, .int .i64 0, .float .f64 0, .string ⟨#[]⟩, .int .i64 0, .int .i64 0, .int .i64 0, .float .f64 0, .string ⟨#[]⟩, .int .i64 0] 60))
  have BA := Aside0.mk (heap_alloc2_new w (.cells #[.int .i64 2, .int .i64 x1, .int .i64 x2, .int .i64 x3, .int .i64 k0, .int .i64 k1, .float .f64 k2, .string k3, .int .i64 k4, .int .i64 v0, .int .i64 v1, .float .f64 v2, .string v3, .int .i64 v4] 31) (.cells #[.int .i64 0, .int .i64 0, .int .i64 0, .int .i64 0, .float .f64 0, .string ⟨#[]⟩, .int .i64 0, .int .i64 0, .int .i64 0, .float .f64 0, .string ⟨#[]⟩, .int .i64 0] 60))
  have LE := hs.le
  have lt1 := blk_lt hs.P
  have ltq := blk_lt hs.Q
  have HA : Aside0 (∀ w1, Lies w1 → Calls Tryd.prog 8 #[.agg #[.int .i64 2, .int .i64 x1, .int .i64 x2, .int .i64 x3, .int .i64 k0, .int .i64 k1, .float .f64 k2, .string k3, .int .i64 k4, .int .i64 v0, .int .i64 v1, .float .f64 v2, .string v3, .int .i64 v4]] w1 fun e w' => e = .returned (.bool true) ∧ Below w1.heap.size w1 w') := ⟨fun w1 hl => by have := implAct_calls ⟨2, x1, x2, x3, ⟨k0, k1, k2, k3, k4⟩, ⟨v0, v1, v2, v3, v4⟩⟩ w1 hl; rw [act_eq, hok] at this; exact this⟩
  clear hok
  have hu := Tryd.underlying29
  have hu2 := Tryd.underlying31
  have hu3 := Tryd.underlying39
  have hu4 := Tryd.underlying37
  have hu5 := Tryd.underlying60
  have hu6 := Tryd.underlying74
  have hu7 := Tryd.underlying78
  have hu8 := Tryd.underlying88
  have hu9 := Tryd.underlying52
  have hu10 := Tryd.underlying56
  have b1 := bt25_1
  have b1n := bne_f b1
  have b2 := bt25_2
  have b2n := bne_t b2
  go_enter Tryd.func26, Tryd.ntmps26
  go_wp2_with (go_at_call 8; refine (HA.out _ (HS.out.below HB.out).lies).mono ?_; rintro e w1 ⟨rfl, hb⟩; have HW := Aside0.mk (below_step HB.out hb); have BX1 := Aside0.mk (blk_below BX.out hb); have BA1 := Aside0.mk (blk_below BA.out hb); have HS1 := Aside0.mk (HS.out.below HW.out); clear HB BX BA HA hb HS; obtain ⟨xz0, xz1, xz2, xz3, xz4, xz5, xz6, xz7, xz8, xz9, xz10, xz11, xz12, xz13⟩ := c14 BX1.out; obtain ⟨⟨az0, az1, az2, az3, az4, az5, az6, az7, az8, az9, az10, az11⟩, af0, af1, af2, af3, af4, af5, af6, af7, af8, af9, af10, af11⟩ := c12 BA1.out; have mz2 := (blk_cell HS1.out.P 2).trans (show _ = some _ from rfl); have nz0 := (blk_cell HS1.out.Q 0).trans (show _ = some _ from rfl); have lt2 := blk_lt BA1.out; have fz : w1.cell? ⟨0, 2, none⟩ = some (.int .i64 25) := HS1.out.lies.2 2 (by omega))
  go_quiet (fail)
  go_wp2
  go_quiet (fail)
  go_wp2_with (first | (go_at_call 43; refine (HK.out _).mono ?_; rintro e w3 ⟨rfl, hb⟩; replace hb : Below w1.heap.size w1 w3 := ⟨hb.os, hb.tape, hb.output, hb.size, hb.block⟩; have HW2 := Aside0.mk (below_step HW.out hb); have BX2 := Aside0.mk (blk_below BX1.out hb); have BA2 := Aside0.mk (blk_below BA1.out hb); have HS2 := Aside0.mk (HS1.out.below hb); clear HK hb HW HS1 BX1 BA1 xz0 xz1 xz2 xz3 xz4 xz5 xz6 xz7 xz8 xz9 xz10 xz11 xz12 xz13 az0 az1 az2 az3 az4 az5 az6 az7 az8 az9 az10 az11 af0 af1 af2 af3 af4 af5 af6 af7 af8 af9 af10 af11 mz2 nz0 fz lt2; obtain ⟨xz0, xz1, xz2, xz3, xz4, xz5, xz6, xz7, xz8, xz9, xz10, xz11, xz12, xz13⟩ := c14 BX2.out; obtain ⟨⟨az0, az1, az2, az3, az4, az5, az6, az7, az8, az9, az10, az11⟩, af0, af1, af2, af3, af4, af5, af6, af7, af8, af9, af10, af11⟩ := c12 BA2.out; have mz2 := (blk_cell HS2.out.P 2).trans (show _ = some _ from rfl); have nz0 := (blk_cell HS2.out.Q 0).trans (show _ = some _ from rfl); have lt2 := blk_lt BA2.out; have lt3 := blk_lt HS2.out.P; have lt4 := blk_lt BX2.out; have lt5 := blk_lt HS2.out.Q))
  exact bodyPost_ret (ret60 rfl rfl (blk_alloc (set12 BA2.out) _)) rfl ((doneI HS2.out (KT.below HW2.out) BA2.out (by omega) (by omega) (codeA 4)).alloc _)
set_option maxHeartbeats 8000000 in
set_option maxRecDepth 100000 in
theorem doI_bad4_3 (w0 w : World) (base gP gS : Nat) (av tv sv : Value) (ts : List S78) (ss : List ByteArray) (x : S31) (hs : ISt w0 w base gP gS av tv sv ts ss) (hn : x.f0 = 3) (hok : aB x = true) (hlt : x.f1 < (ts.length : Int)) (hkc : ¬ keyC x.f4 = 0) :
    Calls Tryd.prog 26 #[.pointer (some ⟨gP, 0, none⟩), .agg (ac x).toArray, .pointer (some ⟨gS, 0, none⟩)] w (DoneI w0 w base gP gS av (codeA 4, ts, ss)) := by
  obtain ⟨tA, tc, rfl⟩ := Kd.S_slice hs.T
  obtain ⟨sA, sc, rfl⟩ := Kd.R_slice hs.S
  have HS := Aside0.mk hs
  obtain ⟨x0, x1, x2, x3, ⟨k0, k1, k2, k3, k4⟩, ⟨v0, v1, v2, v3, v4⟩⟩ := x
  obtain rfl : x0 = 3 := hn
  simp only [] at hlt hkc
  have hd := decide_eq_false (show ¬ (ts.length : Int) ≤ x1 by omega)
  have HK : Aside0 (∀ w1, Calls Tryd.prog 43 #[.agg #[.int .i64 k0, .int .i64 k1, .float .f64 k2, .string k3, .int .i64 k4]] w1 fun e w' => e = .returned (.agg #[.int .i64 (keyC ⟨k0, k1, k2, k3, k4⟩), .int .i64 (keyV ⟨k0, k1, k2, k3, k4⟩).f0, .int .i64 (keyV ⟨k0, k1, k2, k3, k4⟩).f1, .float .f64 (keyV ⟨k0, k1, k2, k3, k4⟩).f2, .string (keyV ⟨k0, k1, k2, k3, k4⟩).f3, .int .i64 (keyV ⟨k0, k1, k2, k3, k4⟩).f4]) ∧ Below w1.heap.size w1 w') := ⟨fun w1 => implKey_calls ⟨k0, k1, k2, k3, k4⟩ w1⟩
  generalize keyC ⟨k0, k1, k2, k3, k4⟩ = kC at *
  generalize keyV ⟨k0, k1, k2, k3, k4⟩ = kV at *
  have hkc2 : (kC == 0) = false := beq_eq_false_iff_ne.mpr hkc
  have hkc3 := bne_f hkc2
  clear hkc
  show Calls Tryd.prog 26 #[.pointer (some ⟨gP, 0, none⟩), .agg #[.int .i64 3, .int .i64 x1, .int .i64 x2, .int .i64 x3, .int .i64 k0, .int .i64 k1, .float .f64 k2, .string k3, .int .i64 k4, .int .i64 v0, .int .i64 v1, .float .f64 v2, .string v3, .int .i64 v4], .pointer (some ⟨gS, 0, none⟩)] w _
  have HB := Aside0.mk (below_alloc (below_alloc (Below.refl w.heap.size w) (.cells #[.int .i64 3, .int .i64 x1, .int .i64 x2, .int .i64 x3, .int .i64 k0, .int .i64 k1, .float .f64 k2, .string k3, .int .i64 k4, .int .i64 v0, .int .i64 v1, .float .f64 v2, .string v3, .int .i64 v4] 31)) (.cells #[.int .i64 0, .int .i64 0, .int .i64 0, .int .i64 0, .float .f64 0, .string ⟨#[]⟩, .int .i64 0, .int .i64 0, .int .i64 0, .float .f64 0, .string ⟨#[]⟩, .int .i64 0] 60))
  have BX := Aside0.mk (heap_alloc2_old w (.cells #[.int .i64 3, .int .i64 x1, .int .i64 x2, .int .i64 x3, .int .i64 k0, .int .i64 k1, .float .f64 k2, .string k3, .int .i64 k4, .int .i64 v0, .int .i64 v1, .float .f64 v2, .string v3, .int .i64 v4] 31) (.cells #[.int .i64 0, .int .i64 0, .int .i64 0, .int .i64 0, .float .f64 0, .string ⟨#[]⟩, .int .i64 0, .int .i64 0, .int .i64 0, .float .f64 0, .string ⟨#[]⟩, .int .i64 0] 60))
  have BA := Aside0.mk (heap_alloc2_new w (.cells #[.int .i64 3, .int .i64 x1, .int .i64 x2, .int .i64 x3, .int .i64 k0, .int .i64 k1, .float .f64 k2, .string k3, .int .i64 k4, .int .i64 v0, .int .i64 v1, .float .f64 v2, .string v3, .int .i64 v4] 31) (.cells #[.int .i64 0, .int .i64 0, .int .i64 0, .int .i64 0, .float .f64 0, .string ⟨#[]⟩, .int .i64 0, .int .i64 0, .int .i64 0, .float .f64 0, .string ⟨#[]⟩, .int .i64 0] 60))
  have LE := hs.le
  have lt1 := blk_lt hs.P
  have ltq := blk_lt hs.Q
  have HA : Aside0 (∀ w1, Lies w1 → Calls Tryd.prog 8 #[.agg #[.int .i64 3, .int .i64 x1, .int .i64 x2, .int .i64 x3, .int .i64 k0, .int .i64 k1, .float .f64 k2, .string k3, .int .i64 k4, .int .i64 v0, .int .i64 v1, .float .f64 v2, .string v3, .int .i64 v4]] w1 fun e w' => e = .returned (.bool true) ∧ Below w1.heap.size w1 w') := ⟨fun w1 hl => by have := implAct_calls ⟨3, x1, x2, x3, ⟨k0, k1, k2, k3, k4⟩, ⟨v0, v1, v2, v3, v4⟩⟩ w1 hl; rw [act_eq, hok] at this; exact this⟩
  clear hok
  have hu := Tryd.underlying29
  have hu2 := Tryd.underlying31
  have hu3 := Tryd.underlying39
  have hu4 := Tryd.underlying37
  have hu5 := Tryd.underlying60
  have hu6 := Tryd.underlying74
  have hu7 := Tryd.underlying78
  have hu8 := Tryd.underlying88
  have hu9 := Tryd.underlying52
  have hu10 := Tryd.underlying56
  have b1 := bt9_1
  have b1n := bne_f b1
  have b2 := bt9_2
  have b2n := bne_t b2
  go_enter Tryd.func26, Tryd.ntmps26
  go_wp2_with (go_at_call 8; refine (HA.out _ (HS.out.below HB.out).lies).mono ?_; rintro e w1 ⟨rfl, hb⟩; have HW := Aside0.mk (below_step HB.out hb); have BX1 := Aside0.mk (blk_below BX.out hb); have BA1 := Aside0.mk (blk_below BA.out hb); have HS1 := Aside0.mk (HS.out.below HW.out); clear HB BX BA HA hb HS; obtain ⟨xz0, xz1, xz2, xz3, xz4, xz5, xz6, xz7, xz8, xz9, xz10, xz11, xz12, xz13⟩ := c14 BX1.out; obtain ⟨⟨az0, az1, az2, az3, az4, az5, az6, az7, az8, az9, az10, az11⟩, af0, af1, af2, af3, af4, af5, af6, af7, af8, af9, af10, af11⟩ := c12 BA1.out; have mz2 := (blk_cell HS1.out.P 2).trans (show _ = some _ from rfl); have nz0 := (blk_cell HS1.out.Q 0).trans (show _ = some _ from rfl); have lt2 := blk_lt BA1.out; have fz : w1.cell? ⟨0, 3, none⟩ = some (.int .i64 9) := HS1.out.lies.2 3 (by omega))
  go_quiet (fail)
  go_wp2
  go_quiet (fail)
  go_wp2_with (first | (go_at_call 43; refine (HK.out _).mono ?_; rintro e w3 ⟨rfl, hb⟩; replace hb : Below w1.heap.size w1 w3 := ⟨hb.os, hb.tape, hb.output, hb.size, hb.block⟩; have HW2 := Aside0.mk (below_step HW.out hb); have BX2 := Aside0.mk (blk_below BX1.out hb); have BA2 := Aside0.mk (blk_below BA1.out hb); have HS2 := Aside0.mk (HS1.out.below hb); clear HK hb HW HS1 BX1 BA1 xz0 xz1 xz2 xz3 xz4 xz5 xz6 xz7 xz8 xz9 xz10 xz11 xz12 xz13 az0 az1 az2 az3 az4 az5 az6 az7 az8 az9 az10 az11 af0 af1 af2 af3 af4 af5 af6 af7 af8 af9 af10 af11 mz2 nz0 fz lt2; obtain ⟨xz0, xz1, xz2, xz3, xz4, xz5, xz6, xz7, xz8, xz9, xz10, xz11, xz12, xz13⟩ := c14 BX2.out; obtain ⟨⟨az0, az1, az2, az3, az4, az5, az6, az7, az8, az9, az10, az11⟩, af0, af1, af2, af3, af4, af5, af6, af7, af8, af9, af10, af11⟩ := c12 BA2.out; have mz2 := (blk_cell HS2.out.P 2).trans (show _ = some _ from rfl); have nz0 := (blk_cell HS2.out.Q 0).trans (show _ = some _ from rfl); have lt2 := blk_lt BA2.out; have lt3 := blk_lt HS2.out.P; have lt4 := blk_lt BX2.out; have lt5 := blk_lt HS2.out.Q))
  exact bodyPost_ret (ret60 rfl rfl (blk_alloc (set12 BA2.out) _)) rfl ((doneI HS2.out (KT.below HW2.out) BA2.out (by omega) (by omega) (codeA 4)).alloc _)
end Go.Proofs.YtclploookcjcbaaDoor.PIde
namespace Go.Proofs.YtclploookcjcbaaDoor.PIde
open Go.RowKit Go.Proofs.YtclploookcjcbaaDoorW.PrintWords Go.Proofs.YtclploookcjcbaaDoorW.PrintLast Go.Proofs.YtclploookcjcbaaDoorW.PrintMore
attribute [local go_sem] max2_int min2_int max_two min_two max_three min_three max_four min_four   -- for this text's walks alone
set_option linter.unusedVariables false
set_option linter.unusedSimpArgs false
theorem ISt.tabs {w0 w w1 : World} {base gP gS : Nat} {av tv sv : Value} {ts ts' : List S78} {ss : List ByteArray} (h : ISt w0 w base gP gS av tv sv ts ss) (hk : KT [78, 88] w w1) (hB : Below base w0 w1) (hT : Kd.S k78 78 w1 base tt tv ts') : ISt w0 w1 base gP gS av tv sv ts' ss :=
  ⟨hB, Nat.le_trans h.le hk.1, hk.blk h.P (by decide), hk.blk h.Q (by decide), h.gp, h.gs, hT, R_KT h.S hk (by decide), h.L, h.b0⟩
theorem ISt.kt {w0 w w1 : World} {base gP gS : Nat} {av tv sv : Value} {ts : List S78} {ss : List ByteArray} {L : List Nat} (h : ISt w0 w base gP gS av tv sv ts ss) (hk : KT L w w1) (hB : Below base w0 w1) (h1 : 39 ∉ L) (h2 : 56 ∉ L) (h3 : ∀ q, q ∈ 78 :: k78.E → q ∉ L) (h4 : ∀ q, q ∈ 9 :: Kd.string.E → q ∉ L) : ISt w0 w1 base gP gS av tv sv ts ss :=
  ⟨hB, Nat.le_trans h.le hk.1, hk.blk h.P h1, hk.blk h.Q h2, h.gp, h.gs, S_KT h.T hk h3, R_KT h.S hk h4, h.L, h.b0⟩
theorem grown_drew' {W W1 : World} {r : Option Nat} (h : W.grownBy W1 r) : W.grownBy W1.drew r := ⟨h.os, h.tape, h.output, h.size, h.block⟩
theorem set6 {w : World} {g : Nat} {t : TypeId} {x0 x1 x2 x3 x4 x5 u0 u1 u2 u3 u4 u5 : Value} (h : w.heap[g]? = some (.cells #[x0, x1, x2, x3, x4, x5] t (0, 0))) :
    ((((((w.setCell ⟨g, 0, none⟩ u0).setCell ⟨g, 1, none⟩ u1).setCell ⟨g, 2, none⟩ u2).setCell ⟨g, 3, none⟩ u3).setCell ⟨g, 4, none⟩ u4).setCell ⟨g, 5, none⟩ u5).heap[g]? = some (.cells #[u0, u1, u2, u3, u4, u5] t (0, 0)) := by
  simpa using blk_set (blk_set (blk_set (blk_set (blk_set (blk_set h 0 u0) 1 u1) 2 u2) 3 u3) 4 u4) 5 u5
theorem idxK_range (k : S29) : ∀ ps : List S88, idxK k ps = -1 ∨ (0 ≤ idxK k ps ∧ idxK k ps < ps.length)
  | [] => .inl rfl
  | p :: ps => by
    have ih := idxK_range k ps
    unfold idxK
    rw [List.length_cons]
    split
    · right; omega
    · split
      · left; rfl
      · right; omega
set_option maxHeartbeats 8000000 in
set_option maxRecDepth 100000 in
theorem doI_get (w0 w : World) (base gP gS : Nat) (av tv sv : Value) (ts : List S78) (ss : List ByteArray) (x : S31) (hs : ISt w0 w base gP gS av tv sv ts ss) (hn : x.f0 = 3) (hok : aB x = true) (h0 : 0 ≤ x.f1) (hlt : x.f1 < (ts.length : Int)) (hkc : keyC x.f4 = 0) :
    Calls Tryd.prog 26 #[.pointer (some ⟨gP, 0, none⟩), .agg (ac x).toArray, .pointer (some ⟨gS, 0, none⟩)] w (DoneI w0 w base gP gS av (⟨0, 0, z29, getV (rd_T78 ts x.f1).f0 (idxK (keyV x.f4) (rd_T78 ts x.f1).f0)⟩, ts, ss)) := by
  obtain ⟨g, tc, he, -, -, -⟩ := Kd.S_form hs.T (by omega)
  subst he
  obtain ⟨sA, sc, rfl⟩ := Kd.R_slice hs.S
  have HS := Aside0.mk hs
  obtain ⟨x0, x1, x2, x3, ⟨k0, k1, k2, k3, k4⟩, ⟨v0, v1, v2, v3, v4⟩⟩ := x
  obtain rfl : x0 = 3 := hn
  simp only [] at h0 hlt
  have hd := decide_eq_false (show ¬ (ts.length : Int) ≤ x1 by omega)
  have HK : Aside0 (∀ w1, Calls Tryd.prog 43 #[.agg #[.int .i64 k0, .int .i64 k1, .float .f64 k2, .string k3, .int .i64 k4]] w1 fun e w' => e = .returned (.agg #[.int .i64 (keyC ⟨k0, k1, k2, k3, k4⟩), .int .i64 (keyV ⟨k0, k1, k2, k3, k4⟩).f0, .int .i64 (keyV ⟨k0, k1, k2, k3, k4⟩).f1, .float .f64 (keyV ⟨k0, k1, k2, k3, k4⟩).f2, .string (keyV ⟨k0, k1, k2, k3, k4⟩).f3, .int .i64 (keyV ⟨k0, k1, k2, k3, k4⟩).f4]) ∧ Below w1.heap.size w1 w') := ⟨fun w1 => implKey_calls ⟨k0, k1, k2, k3, k4⟩ w1⟩
  have hkc2 : (keyC ⟨k0, k1, k2, k3, k4⟩ == 0) = true := by simp only [] at hkc; rw [hkc]; rfl
  have hkc3 := bne_t hkc2
  clear hkc
  have HT : Aside0 (∀ w1 A0 c0, w1.cell? ⟨g, x1.toNat * 2, none⟩ = some (.slice A0 (rd_T78 ts x1).f0.length c0) → Kd.C k88 w1 A0 (rd_T78 ts x1).f0.length (rd_T78 ts x1).f0 → Calls Tryd.prog 44 #[.pointer (some ⟨g, x1.toNat * 2, none⟩), .agg #[.int .i64 (keyV ⟨k0, k1, k2, k3, k4⟩).f0, .int .i64 (keyV ⟨k0, k1, k2, k3, k4⟩).f1, .float .f64 (keyV ⟨k0, k1, k2, k3, k4⟩).f2, .string (keyV ⟨k0, k1, k2, k3, k4⟩).f3, .int .i64 (keyV ⟨k0, k1, k2, k3, k4⟩).f4]] w1 fun e w' => e = .returned (.int .i64 (idxK (keyV ⟨k0, k1, k2, k3, k4⟩) (rd_T78 ts x1).f0)) ∧ Below w1.heap.size w1 w') := ⟨fun w1 A0 c0 hp hr => at_calls _ (keyV ⟨k0, k1, k2, k3, k4⟩) A0 c0 g (x1.toNat * 2) w1 hp hr⟩
  have RG := Aside0.mk (idxK_range (keyV ⟨k0, k1, k2, k3, k4⟩) (rd_T78 ts x1).f0)
  have HLD := Aside0.mk (fun w1 (hS : Kd.S k78 78 w1 base tt (.slice (some ⟨g, 0, none⟩) ts.length tc) ts) => T_lend hS x1 h0 hlt)
  generalize idxK (keyV ⟨k0, k1, k2, k3, k4⟩) (rd_T78 ts x1).f0 = i at *
  have RR := Aside0.mk (show getV (rd_T78 ts x1).f0 i = if i < 0 then z29 else (rd_T88 (rd_T78 ts x1).f0 i).f1 from rfl)
  simp only []
  generalize getV (rd_T78 ts x1).f0 i = V at *
  generalize rd_T78 ts x1 = Tb at *
  obtain ⟨ps, tn⟩ := Tb
  simp only [] at *
  generalize keyC ⟨k0, k1, k2, k3, k4⟩ = kC at *
  generalize keyV ⟨k0, k1, k2, k3, k4⟩ = kV at *
  show Calls Tryd.prog 26 #[.pointer (some ⟨gP, 0, none⟩), .agg #[.int .i64 3, .int .i64 x1, .int .i64 x2, .int .i64 x3, .int .i64 k0, .int .i64 k1, .float .f64 k2, .string k3, .int .i64 k4, .int .i64 v0, .int .i64 v1, .float .f64 v2, .string v3, .int .i64 v4], .pointer (some ⟨gS, 0, none⟩)] w _
  have HB := Aside0.mk (below_alloc (below_alloc (Below.refl w.heap.size w) (.cells #[.int .i64 3, .int .i64 x1, .int .i64 x2, .int .i64 x3, .int .i64 k0, .int .i64 k1, .float .f64 k2, .string k3, .int .i64 k4, .int .i64 v0, .int .i64 v1, .float .f64 v2, .string v3, .int .i64 v4] 31)) (.cells #[.int .i64 0, .int .i64 0, .int .i64 0, .int .i64 0, .float .f64 0, .string ⟨#[]⟩, .int .i64 0, .int .i64 0, .int .i64 0, .float .f64 0, .string ⟨#[]⟩, .int .i64 0] 60))
  have BX := Aside0.mk (heap_alloc2_old w (.cells #[.int .i64 3, .int .i64 x1, .int .i64 x2, .int .i64 x3, .int .i64 k0, .int .i64 k1, .float .f64 k2, .string k3, .int .i64 k4, .int .i64 v0, .int .i64 v1, .float .f64 v2, .string v3, .int .i64 v4] 31) (.cells #[.int .i64 0, .int .i64 0, .int .i64 0, .int .i64 0, .float .f64 0, .string ⟨#[]⟩, .int .i64 0, .int .i64 0, .int .i64 0, .float .f64 0, .string ⟨#[]⟩, .int .i64 0] 60))
  have BA := Aside0.mk (heap_alloc2_new w (.cells #[.int .i64 3, .int .i64 x1, .int .i64 x2, .int .i64 x3, .int .i64 k0, .int .i64 k1, .float .f64 k2, .string k3, .int .i64 k4, .int .i64 v0, .int .i64 v1, .float .f64 v2, .string v3, .int .i64 v4] 31) (.cells #[.int .i64 0, .int .i64 0, .int .i64 0, .int .i64 0, .float .f64 0, .string ⟨#[]⟩, .int .i64 0, .int .i64 0, .int .i64 0, .float .f64 0, .string ⟨#[]⟩, .int .i64 0] 60))
  have LE := hs.le
  have lt1 := blk_lt hs.P
  have ltq := blk_lt hs.Q
  have HA : Aside0 (∀ w1, Lies w1 → Calls Tryd.prog 8 #[.agg #[.int .i64 3, .int .i64 x1, .int .i64 x2, .int .i64 x3, .int .i64 k0, .int .i64 k1, .float .f64 k2, .string k3, .int .i64 k4, .int .i64 v0, .int .i64 v1, .float .f64 v2, .string v3, .int .i64 v4]] w1 fun e w' => e = .returned (.bool true) ∧ Below w1.heap.size w1 w') := ⟨fun w1 hl => by have := implAct_calls ⟨3, x1, x2, x3, ⟨k0, k1, k2, k3, k4⟩, ⟨v0, v1, v2, v3, v4⟩⟩ w1 hl; rw [act_eq, hok] at this; exact this⟩
  clear hok
  have hu := Tryd.underlying29
  have hu2 := Tryd.underlying31
  have hu3 := Tryd.underlying39
  have hu4 := Tryd.underlying37
  have hu5 := Tryd.underlying60
  have hu6 := Tryd.underlying74
  have hu7 := Tryd.underlying78
  have hu8 := Tryd.underlying88
  have hu9 := Tryd.underlying52
  have hu10 := Tryd.underlying56
  have b1 := bt9_1
  have b1n := bne_f b1
  have b2 := bt9_2
  have b2n := bne_t b2
  go_enter Tryd.func26, Tryd.ntmps26
  go_wp2_with (go_at_call 8; refine (HA.out _ (HS.out.below HB.out).lies).mono ?_; rintro e w1 ⟨rfl, hb⟩; have HW := Aside0.mk (below_step HB.out hb); have BX1 := Aside0.mk (blk_below BX.out hb); have BA1 := Aside0.mk (blk_below BA.out hb); have HS1 := Aside0.mk (HS.out.below HW.out); clear HB BX BA HA hb HS; obtain ⟨xz0, xz1, xz2, xz3, xz4, xz5, xz6, xz7, xz8, xz9, xz10, xz11, xz12, xz13⟩ := c14 BX1.out; obtain ⟨⟨az0, az1, az2, az3, az4, az5, az6, az7, az8, az9, az10, az11⟩, af0, af1, af2, af3, af4, af5, af6, af7, af8, af9, af10, af11⟩ := c12 BA1.out; have mz2 := (blk_cell HS1.out.P 2).trans (show _ = some _ from rfl); have nz0 := (blk_cell HS1.out.Q 0).trans (show _ = some _ from rfl); have lt2 := blk_lt BA1.out; have fz : w1.cell? ⟨0, 3, none⟩ = some (.int .i64 9) := HS1.out.lies.2 3 (by omega))
  go_quiet (fail)
  go_wp2
  go_quiet (fail)
  go_wp2_with (first | (go_at_call 43; refine (HK.out _).mono ?_; rintro e w3 ⟨rfl, hb⟩; replace hb : Below w1.heap.size w1 w3 := ⟨hb.os, hb.tape, hb.output, hb.size, hb.block⟩; have HW2 := Aside0.mk (below_step HW.out hb); have BX2 := Aside0.mk (blk_below BX1.out hb); have BA2 := Aside0.mk (blk_below BA1.out hb); have HS2 := Aside0.mk (HS1.out.below hb); clear HK hb HW HS1 BX1 BA1 xz0 xz1 xz2 xz3 xz4 xz5 xz6 xz7 xz8 xz9 xz10 xz11 xz12 xz13 az0 az1 az2 az3 az4 az5 az6 az7 az8 az9 az10 az11 af0 af1 af2 af3 af4 af5 af6 af7 af8 af9 af10 af11 mz2 nz0 fz lt2; obtain ⟨xz0, xz1, xz2, xz3, xz4, xz5, xz6, xz7, xz8, xz9, xz10, xz11, xz12, xz13⟩ := c14 BX2.out; obtain ⟨⟨az0, az1, az2, az3, az4, az5, az6, az7, az8, az9, az10, az11⟩, af0, af1, af2, af3, af4, af5, af6, af7, af8, af9, af10, af11⟩ := c12 BA2.out; have mz2 := (blk_cell HS2.out.P 2).trans (show _ = some _ from rfl); have nz0 := (blk_cell HS2.out.Q 0).trans (show _ = some _ from rfl); have lt2 := blk_lt BA2.out; have lt3 := blk_lt HS2.out.P; have lt4 := blk_lt BX2.out; have lt5 := blk_lt HS2.out.Q))
  obtain ⟨W, eW⟩ : ∃ W, W = w3.alloc (.cells #[.int .i64 kC, .int .i64 kV.f0, .int .i64 kV.f1, .float .f64 kV.f2, .string kV.f3, .int .i64 kV.f4] 74) := ⟨_, rfl⟩
  have hbW : Below w3.heap.size w3 W := by rw [eW]; exact below_alloc (Below.refl _ _) _
  have HW3 := Aside0.mk (below_step HW2.out hbW)
  have BX3 := Aside0.mk (blk_below BX2.out hbW)
  have BA3 := Aside0.mk (blk_below BA2.out hbW)
  have HS3 := Aside0.mk (HS2.out.below hbW)
  have BK3 := Aside0.mk (show W.heap[w3.heap.size]? = some (.cells #[.int .i64 kC, .int .i64 kV.f0, .int .i64 kV.f1, .float .f64 kV.f2, .string kV.f3, .int .i64 kV.f4] 74 (0, 0)) by rw [eW]; exact heap_alloc_new _ _)
  rw [← eW]
  have NK0 := lt2
  clear eW hbW HW2 BX2 BA2 HS2 xz0 xz1 xz2 xz3 xz4 xz5 xz6 xz7 xz8 xz9 xz10 xz11 xz12 xz13 az0 az1 az2 az3 az4 az5 az6 az7 az8 az9 az10 az11 af0 af1 af2 af3 af4 af5 af6 af7 af8 af9 af10 af11 mz2 nz0 lt2 lt3 lt4 lt5
  generalize w3.heap.size = gK at *
  obtain ⟨xz0, xz1, xz2, xz3, xz4, xz5, xz6, xz7, xz8, xz9, xz10, xz11, xz12, xz13⟩ := c14 BX3.out
  have mz2 := (blk_cell HS3.out.P 2).trans (show _ = some _ from rfl)
  have lt3 := blk_lt HS3.out.P
  have lt4 := blk_lt BX3.out
  go_quiet (fail)
  have hbq : Below W.heap.size W (W.drewN nq) := pw_below_drewN (Below.refl _ _) nq
  generalize W.drewN nq = W2 at hbq ⊢
  have HW4 := Aside0.mk (below_step HW3.out hbq)
  have BX4 := Aside0.mk (blk_below BX3.out hbq)
  have BA4 := Aside0.mk (blk_below BA3.out hbq)
  have BK4 := Aside0.mk (blk_below BK3.out hbq)
  have HS4 := Aside0.mk (HS3.out.below hbq)
  clear hbq HW3 BX3 BA3 BK3 HS3 xz0 xz1 xz2 xz3 xz4 xz5 xz6 xz7 xz8 xz9 xz10 xz11 xz12 xz13 mz2 lt3 lt4
  obtain ⟨xz0, xz1, xz2, xz3, xz4, xz5, xz6, xz7, xz8, xz9, xz10, xz11, xz12, xz13⟩ := c14 BX4.out
  obtain ⟨⟨az0, az1, az2, az3, az4, az5, az6, az7, az8, az9, az10, az11⟩, af0, af1, af2, af3, af4, af5, af6, af7, af8, af9, af10, af11⟩ := c12 BA4.out
  obtain ⟨kz0, kz1, kz2, kz3, kz4, kz5⟩ := c6 BK4.out
  have lt3 := blk_lt HS4.out.P
  have lt4 := blk_lt BA4.out
  have lt5 := blk_lt BX4.out
  have lt6 := blk_lt BK4.out
  obtain ⟨oki, pv, hR, hx0, hx1, -, -, -, -⟩ := HLD.out W2 HS4.out.T
  obtain ⟨A0, c0, rfl⟩ := Kd.R_slice hR
  obtain ⟨-, hl0, hc0⟩ := Kd.R_reads' hR
  have HC := Aside0.mk hc0
  have lt7 := World.block_lt_of_cell? W2 _ hx0
  clear hR hx1 hc0 HLD
  go_wp2_with (go_at_call 44; refine (HT.out _ A0 c0 hx0 HC.out).mono ?_; rintro e w5 ⟨rfl, hb⟩; have HW5 := Aside0.mk (below_step HW4.out hb); have BA5 := Aside0.mk (blk_below BA4.out hb); have HS5 := Aside0.mk (HS4.out.below hb); have hx0' := (hb.cell lt7).trans hx0; have HC5 := Aside0.mk (Kd.C_below HC.out hb); clear hb xz0 xz1 xz2 xz3 xz4 xz5 xz6 xz7 xz8 xz9 xz10 xz11 xz12 xz13 az0 az1 az2 az3 az4 az5 az6 az7 az8 az9 az10 az11 af0 af1 af2 af3 af4 af5 af6 af7 af8 af9 af10 af11 HT; obtain ⟨⟨az0, az1, az2, az3, az4, az5, az6, az7, az8, az9, az10, az11⟩, af0, af1, af2, af3, af4, af5, af6, af7, af8, af9, af10, af11⟩ := c12 BA5.out; have lt8 := blk_lt BA5.out; rcases RG.out with hi | ⟨hi0, hi1⟩; (subst hi); rotate_left; (obtain ⟨ap, e2, p0, p1, p2, p3, p4, p5, p6, p7, p8, p9, p10⟩ := at_T88 HC5.out i hi0 hi1; cases e2; have hi2 : ¬ i < 0 := (by omega)); skip)
  · obtain rfl : V = (rd_T88 ps i).f1 := RR.out.trans (if_neg (by omega))
    exact bodyPost_ret (ret60 rfl rfl (set12 BA5.out)) rfl (doneI HS5.out (KT.below HW5.out) BA5.out (by omega) (by omega) ⟨0, 0, z29, (rd_T88 ps i).f1⟩)
  · obtain rfl : V = z29 := RR.out.trans (if_pos (by decide))
    exact bodyPost_ret (ret60 rfl rfl (set12 BA5.out)) rfl (doneI HS5.out (KT.below HW5.out) BA5.out (by omega) (by omega) ⟨0, 0, z29, z29⟩)
end Go.Proofs.YtclploookcjcbaaDoor.PIde
namespace Go.Proofs.YtclploookcjcbaaDoor.PIde
open Go.RowKit Go.Proofs.YtclploookcjcbaaDoorW.PrintWords Go.Proofs.YtclploookcjcbaaDoorW.PrintLast Go.Proofs.YtclploookcjcbaaDoorW.PrintMore
attribute [local go_sem] max2_int min2_int max_two min_two max_three min_three max_four min_four   -- for this text's walks alone
set_option linter.unusedVariables false
set_option linter.unusedSimpArgs false
set_option maxHeartbeats 8000000 in
set_option maxRecDepth 100000 in
theorem doI_field (w0 w : World) (base gP gS : Nat) (av tv sv : Value) (ts : List S78) (ss : List ByteArray) (x : S31) (hs : ISt w0 w base gP gS av tv sv ts ss) (hn : x.f0 = 8) (hok : aB x = true) (h0 : 0 ≤ x.f1) (hlt : x.f1 < (ts.length : Int)) (hs0 : 0 ≤ x.f2) (hslt : x.f2 < (ss.length : Int)) :
    Calls Tryd.prog 26 #[.pointer (some ⟨gP, 0, none⟩), .agg (ac x).toArray, .pointer (some ⟨gS, 0, none⟩)] w (DoneI w0 w base gP gS av (⟨0, 0, z29, getV (rd_T78 ts x.f1).f0 (idxK (strK (rdOf ByteArray.empty ss x.f2)) (rd_T78 ts x.f1).f0)⟩, ts, ss)) := by
  obtain ⟨g, tc, he, -, -, -⟩ := Kd.S_form hs.T (by omega)
  subst he
  obtain ⟨gs, sc, he, -, hgs, -⟩ := Kd.R_form hs.S (by omega)
  subst he
  have HS := Aside0.mk hs
  obtain ⟨x0, x1, x2, x3, ⟨k0, k1, k2, k3, k4⟩, ⟨v0, v1, v2, v3, v4⟩⟩ := x
  obtain rfl : x0 = 8 := hn
  simp only [] at h0 hlt hs0 hslt
  have hd := decide_eq_false (show ¬ (ts.length : Int) ≤ x1 by omega)
  have hd2 := decide_eq_false (show ¬ (ss.length : Int) ≤ x2 by omega)
  have HK : Aside0 (∀ w1, Calls Tryd.prog 43 #[.agg #[.int .i64 k0, .int .i64 k1, .float .f64 k2, .string k3, .int .i64 k4]] w1 fun e w' => e = .returned (.agg #[.int .i64 (keyC ⟨k0, k1, k2, k3, k4⟩), .int .i64 (keyV ⟨k0, k1, k2, k3, k4⟩).f0, .int .i64 (keyV ⟨k0, k1, k2, k3, k4⟩).f1, .float .f64 (keyV ⟨k0, k1, k2, k3, k4⟩).f2, .string (keyV ⟨k0, k1, k2, k3, k4⟩).f3, .int .i64 (keyV ⟨k0, k1, k2, k3, k4⟩).f4]) ∧ Below w1.heap.size w1 w') := ⟨fun w1 => implKey_calls ⟨k0, k1, k2, k3, k4⟩ w1⟩
  have HF9 : Aside0 (∀ w1, Kd.string.C w1 (some ⟨gs, 0, none⟩) ss.length ss → w1.cell? ⟨gs, x2.toNat, none⟩ = some (.string (rdOf ByteArray.empty ss x2))) := ⟨fun w1 hC => by have := Kd.foot_string hC x2 hs0 hslt; rw [Addr.add_lit, Nat.zero_add] at this; exact this⟩
  have HT : Aside0 (∀ w1 A0 c0, w1.cell? ⟨g, x1.toNat * 2, none⟩ = some (.slice A0 (rd_T78 ts x1).f0.length c0) → Kd.C k88 w1 A0 (rd_T78 ts x1).f0.length (rd_T78 ts x1).f0 → Calls Tryd.prog 44 #[.pointer (some ⟨g, x1.toNat * 2, none⟩), .agg #[.int .i64 4, .int .i64 0, .float .f64 0, .string (rdOf ByteArray.empty ss x2), .int .i64 0]] w1 fun e w' => e = .returned (.int .i64 (idxK (strK (rdOf ByteArray.empty ss x2)) (rd_T78 ts x1).f0)) ∧ Below w1.heap.size w1 w') := ⟨fun w1 A0 c0 hp hr => at_calls _ (strK (rdOf ByteArray.empty ss x2)) A0 c0 g (x1.toNat * 2) w1 hp hr⟩
  have RG := Aside0.mk (idxK_range (strK (rdOf ByteArray.empty ss x2)) (rd_T78 ts x1).f0)
  have HLD := Aside0.mk (fun w1 (hS : Kd.S k78 78 w1 base tt (.slice (some ⟨g, 0, none⟩) ts.length tc) ts) => T_lend hS x1 h0 hlt)
  generalize idxK (strK (rdOf ByteArray.empty ss x2)) (rd_T78 ts x1).f0 = i at *
  have RR := Aside0.mk (show getV (rd_T78 ts x1).f0 i = if i < 0 then z29 else (rd_T88 (rd_T78 ts x1).f0 i).f1 from rfl)
  simp only []
  generalize getV (rd_T78 ts x1).f0 i = V at *
  generalize rd_T78 ts x1 = Tb at *
  obtain ⟨ps, tn⟩ := Tb
  simp only [] at *
  generalize rdOf ByteArray.empty ss x2 = sK at *
  generalize keyC ⟨k0, k1, k2, k3, k4⟩ = kC at *
  generalize keyV ⟨k0, k1, k2, k3, k4⟩ = kV at *
  show Calls Tryd.prog 26 #[.pointer (some ⟨gP, 0, none⟩), .agg #[.int .i64 8, .int .i64 x1, .int .i64 x2, .int .i64 x3, .int .i64 k0, .int .i64 k1, .float .f64 k2, .string k3, .int .i64 k4, .int .i64 v0, .int .i64 v1, .float .f64 v2, .string v3, .int .i64 v4], .pointer (some ⟨gS, 0, none⟩)] w _
  have HB := Aside0.mk (below_alloc (below_alloc (Below.refl w.heap.size w) (.cells #[.int .i64 8, .int .i64 x1, .int .i64 x2, .int .i64 x3, .int .i64 k0, .int .i64 k1, .float .f64 k2, .string k3, .int .i64 k4, .int .i64 v0, .int .i64 v1, .float .f64 v2, .string v3, .int .i64 v4] 31)) (.cells #[.int .i64 0, .int .i64 0, .int .i64 0, .int .i64 0, .float .f64 0, .string ⟨#[]⟩, .int .i64 0, .int .i64 0, .int .i64 0, .float .f64 0, .string ⟨#[]⟩, .int .i64 0] 60))
  have BX := Aside0.mk (heap_alloc2_old w (.cells #[.int .i64 8, .int .i64 x1, .int .i64 x2, .int .i64 x3, .int .i64 k0, .int .i64 k1, .float .f64 k2, .string k3, .int .i64 k4, .int .i64 v0, .int .i64 v1, .float .f64 v2, .string v3, .int .i64 v4] 31) (.cells #[.int .i64 0, .int .i64 0, .int .i64 0, .int .i64 0, .float .f64 0, .string ⟨#[]⟩, .int .i64 0, .int .i64 0, .int .i64 0, .float .f64 0, .string ⟨#[]⟩, .int .i64 0] 60))
  have BA := Aside0.mk (heap_alloc2_new w (.cells #[.int .i64 8, .int .i64 x1, .int .i64 x2, .int .i64 x3, .int .i64 k0, .int .i64 k1, .float .f64 k2, .string k3, .int .i64 k4, .int .i64 v0, .int .i64 v1, .float .f64 v2, .string v3, .int .i64 v4] 31) (.cells #[.int .i64 0, .int .i64 0, .int .i64 0, .int .i64 0, .float .f64 0, .string ⟨#[]⟩, .int .i64 0, .int .i64 0, .int .i64 0, .float .f64 0, .string ⟨#[]⟩, .int .i64 0] 60))
  have LE := hs.le
  have lt1 := blk_lt hs.P
  have ltq := blk_lt hs.Q
  have HA : Aside0 (∀ w1, Lies w1 → Calls Tryd.prog 8 #[.agg #[.int .i64 8, .int .i64 x1, .int .i64 x2, .int .i64 x3, .int .i64 k0, .int .i64 k1, .float .f64 k2, .string k3, .int .i64 k4, .int .i64 v0, .int .i64 v1, .float .f64 v2, .string v3, .int .i64 v4]] w1 fun e w' => e = .returned (.bool true) ∧ Below w1.heap.size w1 w') := ⟨fun w1 hl => by have := implAct_calls ⟨8, x1, x2, x3, ⟨k0, k1, k2, k3, k4⟩, ⟨v0, v1, v2, v3, v4⟩⟩ w1 hl; rw [act_eq, hok] at this; exact this⟩
  clear hok
  have hu := Tryd.underlying29
  have hu2 := Tryd.underlying31
  have hu3 := Tryd.underlying39
  have hu4 := Tryd.underlying37
  have hu5 := Tryd.underlying60
  have hu6 := Tryd.underlying74
  have hu7 := Tryd.underlying78
  have hu8 := Tryd.underlying88
  have hu9 := Tryd.underlying52
  have hu10 := Tryd.underlying56
  have b1 := bt3_1
  have b1n := bne_f b1
  have b2 := bt3_2
  have b2n := bne_f b2
  go_enter Tryd.func26, Tryd.ntmps26
  go_wp2_with (go_at_call 8; refine (HA.out _ (HS.out.below HB.out).lies).mono ?_; rintro e w1 ⟨rfl, hb⟩; have HW := Aside0.mk (below_step HB.out hb); have BX1 := Aside0.mk (blk_below BX.out hb); have BA1 := Aside0.mk (blk_below BA.out hb); have HS1 := Aside0.mk (HS.out.below HW.out); clear HB BX BA HA hb HS; obtain ⟨xz0, xz1, xz2, xz3, xz4, xz5, xz6, xz7, xz8, xz9, xz10, xz11, xz12, xz13⟩ := c14 BX1.out; obtain ⟨⟨az0, az1, az2, az3, az4, az5, az6, az7, az8, az9, az10, az11⟩, af0, af1, af2, af3, af4, af5, af6, af7, af8, af9, af10, af11⟩ := c12 BA1.out; have mz2 := (blk_cell HS1.out.P 2).trans (show _ = some _ from rfl); have nz0 := (blk_cell HS1.out.Q 0).trans (show _ = some _ from rfl); have lt2 := blk_lt BA1.out; have fz : w1.cell? ⟨0, 8, none⟩ = some (.int .i64 3) := HS1.out.lies.2 8 (by omega))
  go_quiet (fail)
  go_wp2
  go_quiet (fail)
  go_wp2_with (first | (go_at_call 43; refine (HK.out _).mono ?_; rintro e w3 ⟨rfl, hb⟩; replace hb : Below w1.heap.size w1 w3 := ⟨hb.os, hb.tape, hb.output, hb.size, hb.block⟩; have HW2 := Aside0.mk (below_step HW.out hb); have BX2 := Aside0.mk (blk_below BX1.out hb); have BA2 := Aside0.mk (blk_below BA1.out hb); have HS2 := Aside0.mk (HS1.out.below hb); clear HK hb HW HS1 BX1 BA1 xz0 xz1 xz2 xz3 xz4 xz5 xz6 xz7 xz8 xz9 xz10 xz11 xz12 xz13 az0 az1 az2 az3 az4 az5 az6 az7 az8 az9 az10 az11 af0 af1 af2 af3 af4 af5 af6 af7 af8 af9 af10 af11 mz2 nz0 fz lt2; obtain ⟨xz0, xz1, xz2, xz3, xz4, xz5, xz6, xz7, xz8, xz9, xz10, xz11, xz12, xz13⟩ := c14 BX2.out; obtain ⟨⟨az0, az1, az2, az3, az4, az5, az6, az7, az8, az9, az10, az11⟩, af0, af1, af2, af3, af4, af5, af6, af7, af8, af9, af10, af11⟩ := c12 BA2.out; have mz2 := (blk_cell HS2.out.P 2).trans (show _ = some _ from rfl); have nz0 := (blk_cell HS2.out.Q 0).trans (show _ = some _ from rfl); have lt2 := blk_lt BA2.out; have lt3 := blk_lt HS2.out.P; have lt4 := blk_lt BX2.out; have lt5 := blk_lt HS2.out.Q))
  obtain ⟨W, eW⟩ : ∃ W, W = w3.alloc (.cells #[.int .i64 kC, .int .i64 kV.f0, .int .i64 kV.f1, .float .f64 kV.f2, .string kV.f3, .int .i64 kV.f4] 74) := ⟨_, rfl⟩
  have hbW : Below w3.heap.size w3 W := by rw [eW]; exact below_alloc (Below.refl _ _) _
  have HW3 := Aside0.mk (below_step HW2.out hbW)
  have BX3 := Aside0.mk (blk_below BX2.out hbW)
  have BA3 := Aside0.mk (blk_below BA2.out hbW)
  have HS3 := Aside0.mk (HS2.out.below hbW)
  have BK3 := Aside0.mk (show W.heap[w3.heap.size]? = some (.cells #[.int .i64 kC, .int .i64 kV.f0, .int .i64 kV.f1, .float .f64 kV.f2, .string kV.f3, .int .i64 kV.f4] 74 (0, 0)) by rw [eW]; exact heap_alloc_new _ _)
  rw [← eW]
  have NK0 := lt2
  clear eW hbW HW2 BX2 BA2 HS2 xz0 xz1 xz2 xz3 xz4 xz5 xz6 xz7 xz8 xz9 xz10 xz11 xz12 xz13 az0 az1 az2 az3 az4 az5 az6 az7 az8 az9 az10 az11 af0 af1 af2 af3 af4 af5 af6 af7 af8 af9 af10 af11 mz2 nz0 lt2 lt3 lt4 lt5
  generalize w3.heap.size = gK at *
  have s1 := (blk_cell HS3.out.Q 0).trans (show _ = some _ from rfl)
  have s3 := HF9.out W (Kd.R_reads' HS3.out.S).2.2
  obtain ⟨_, _, s2, _⟩ := c14 BX3.out
  obtain ⟨kz0, kz1, kz2, kz3, kz4, kz5⟩ := c6 BK3.out
  obtain ⟨kf0, kf1, kf2, kf3, kf4, kf5⟩ := f6 BK3.out
  have hKS : gK ≠ gS := by omega
  have hKX : gK ≠ w.heap.size := by omega
  have hKs : gK ≠ gs := by omega
  go_region_held3 (fun w' => w'.cell? ⟨gS, 0, none⟩ = some (.slice (some ⟨gs, 0, none⟩) ss.length sc) ∧ w'.cell? ⟨w.heap.size, 2, none⟩ = some (.int .i64 x2) ∧ w'.cell? ⟨gs, x2.toNat, none⟩ = some (.string sK)) (go_keep) (fail)
  obtain ⟨W9, e9⟩ : ∃ W9, W9 = ((((((W.setCell ⟨gK, 0, none⟩ (.int .i64 0)).setCell ⟨gK, 1, none⟩ (.int .i64 4)).setCell ⟨gK, 2, none⟩ (.int .i64 0)).setCell ⟨gK, 3, none⟩ (.float .f64 0)).setCell ⟨gK, 4, none⟩ (.string sK)).setCell ⟨gK, 5, none⟩ (.int .i64 0)).drew := ⟨_, rfl⟩
  have hg : W.grownBy W9 (some gK) := by
    rw [e9]
    exact grown_drew' (grown_setCells W gK 0 [.int .i64 0, .int .i64 4, .int .i64 0, .float .f64 0, .string sK, .int .i64 0])
  have hk9 : KT [74] W W9 := KT.grown hg (fun k e => by injection e with e; subst e; exact ⟨_, _, BK3.out, by simp⟩)
  have BK9 := Aside0.mk (show W9.heap[gK]? = some (.cells #[.int .i64 0, .int .i64 4, .int .i64 0, .float .f64 0, .string sK, .int .i64 0] 74 (0, 0)) by rw [e9, heap_drew]; exact set6 BK3.out)
  have HW9 := Aside0.mk (HW3.out.grown hg HW3.out.size (fun k e => by injection e with e; omega))
  have BX9 := Aside0.mk (hk9.blk BX3.out (by decide))
  have BA9 := Aside0.mk (hk9.blk BA3.out (by decide))
  have HS9 := Aside0.mk (HS3.out.kt hk9 (HS3.out.B.grown hg HS3.out.le (fun k e => by injection e with e; omega)) (by decide) (by decide) (by decide) (by decide))
  rw [← e9]
  clear e9 hg hk9 HW3 BX3 BA3 BK3 HS3 s1 s2 s3 kz0 kz1 kz2 kz3 kz4 kz5 kf0 kf1 kf2 kf3 kf4 kf5 hKS hKX hKs
  have HW3 := HW9
  have BX3 := BX9
  have BA3 := BA9
  have BK3 := BK9
  have HS3 := HS9
  clear HW9 BX9 BA9 BK9 HS9
  go_wp2
  obtain ⟨xz0, xz1, xz2, xz3, xz4, xz5, xz6, xz7, xz8, xz9, xz10, xz11, xz12, xz13⟩ := c14 BX3.out
  have mz2 := (blk_cell HS3.out.P 2).trans (show _ = some _ from rfl)
  have lt3 := blk_lt HS3.out.P
  have lt4 := blk_lt BX3.out
  go_quiet (fail)
  have hbq : Below W9.heap.size W9 (W9.drewN nq) := pw_below_drewN (Below.refl _ _) nq
  generalize W9.drewN nq = W2 at hbq ⊢
  have HW4 := Aside0.mk (below_step HW3.out hbq)
  have BX4 := Aside0.mk (blk_below BX3.out hbq)
  have BA4 := Aside0.mk (blk_below BA3.out hbq)
  have BK4 := Aside0.mk (blk_below BK3.out hbq)
  have HS4 := Aside0.mk (HS3.out.below hbq)
  clear hbq HW3 BX3 BA3 BK3 HS3 xz0 xz1 xz2 xz3 xz4 xz5 xz6 xz7 xz8 xz9 xz10 xz11 xz12 xz13 mz2 lt3 lt4
  obtain ⟨xz0, xz1, xz2, xz3, xz4, xz5, xz6, xz7, xz8, xz9, xz10, xz11, xz12, xz13⟩ := c14 BX4.out
  obtain ⟨⟨az0, az1, az2, az3, az4, az5, az6, az7, az8, az9, az10, az11⟩, af0, af1, af2, af3, af4, af5, af6, af7, af8, af9, af10, af11⟩ := c12 BA4.out
  obtain ⟨kz0, kz1, kz2, kz3, kz4, kz5⟩ := c6 BK4.out
  have lt3 := blk_lt HS4.out.P
  have lt4 := blk_lt BA4.out
  have lt5 := blk_lt BX4.out
  have lt6 := blk_lt BK4.out
  obtain ⟨oki, pv, hR, hx0, hx1, -, -, -, -⟩ := HLD.out W2 HS4.out.T
  obtain ⟨A0, c0, rfl⟩ := Kd.R_slice hR
  obtain ⟨-, hl0, hc0⟩ := Kd.R_reads' hR
  have HC := Aside0.mk hc0
  have lt7 := World.block_lt_of_cell? W2 _ hx0
  clear hR hx1 hc0 HLD
  go_wp2_with (go_at_call 44; refine (HT.out _ A0 c0 hx0 HC.out).mono ?_; rintro e w5 ⟨rfl, hb⟩; have HW5 := Aside0.mk (below_step HW4.out hb); have BA5 := Aside0.mk (blk_below BA4.out hb); have HS5 := Aside0.mk (HS4.out.below hb); have hx0' := (hb.cell lt7).trans hx0; have HC5 := Aside0.mk (Kd.C_below HC.out hb); clear hb xz0 xz1 xz2 xz3 xz4 xz5 xz6 xz7 xz8 xz9 xz10 xz11 xz12 xz13 az0 az1 az2 az3 az4 az5 az6 az7 az8 az9 az10 az11 af0 af1 af2 af3 af4 af5 af6 af7 af8 af9 af10 af11 HT; obtain ⟨⟨az0, az1, az2, az3, az4, az5, az6, az7, az8, az9, az10, az11⟩, af0, af1, af2, af3, af4, af5, af6, af7, af8, af9, af10, af11⟩ := c12 BA5.out; have lt8 := blk_lt BA5.out; rcases RG.out with hi | ⟨hi0, hi1⟩; (subst hi); rotate_left; (obtain ⟨ap, e2, p0, p1, p2, p3, p4, p5, p6, p7, p8, p9, p10⟩ := at_T88 HC5.out i hi0 hi1; cases e2; have hi2 : ¬ i < 0 := (by omega)); skip)
  · obtain rfl : V = (rd_T88 ps i).f1 := RR.out.trans (if_neg (by omega))
    exact bodyPost_ret (ret60 rfl rfl (set12 BA5.out)) rfl (doneI HS5.out (KT.below HW5.out) BA5.out (by omega) (by omega) ⟨0, 0, z29, (rd_T88 ps i).f1⟩)
  · obtain rfl : V = z29 := RR.out.trans (if_pos (by decide))
    exact bodyPost_ret (ret60 rfl rfl (set12 BA5.out)) rfl (doneI HS5.out (KT.below HW5.out) BA5.out (by omega) (by omega) ⟨0, 0, z29, z29⟩)
end Go.Proofs.YtclploookcjcbaaDoor.PIde
