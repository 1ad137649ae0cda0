/- Proved: what the reference's write into a table comes to where nothing, or a value alone, is written; what the reference's write into a table comes to where a pair is taken out; what the reference's write into a table comes to where a pair comes; the state of the reference's play, and its step's answers where nothing is done; the reference's step where a site or a key is wrong; the reference's step: a key is read. Conditions: those each theorem states. -/
import Derived.Test.YtclploookcjcbaaDoorIdGB
import Derived.Test.YtclploookcjcbaaDoorIdGA
import Derived.Deep.RegionHeld3
import Derived.Deep.QuietTactic
import Derived.BigQuiet
namespace Go.Proofs.YtclploookcjcbaaDoor.PIde
open Go.RowKit Go.Proofs.YtclploookcjcbaaDoorW.PrintWords Go.Proofs.YtclploookcjcbaaDoorW.PrintLast Go.Proofs.YtclploookcjcbaaDoorW.PrintMore
attribute [local go_sem] max2_int min2_int max_two min_two max_three min_three max_four min_four   -- for this text's walks alone
set_option linter.unusedVariables false
set_option linter.unusedSimpArgs false
theorem c2 {w : World} {g : Nat} {t : TypeId} {x0 x1 : Value} (h : w.heap[g]? = some (.cells #[x0, x1] t (0, 0))) : w.cell? ⟨g, 0, none⟩ = some x0 ∧ w.cell? ⟨g, 1, none⟩ = some x1 := by
  have e := fun j => blk_cell h j
  refine ⟨?_, ?_⟩ <;> rw [e] <;> rfl
/-- The value of a pair of a row of one's own is written. -/
theorem P_val {W : World} {base gp n cap : Nat} {ok : Nat → Prop} {ps : List S88} (h : k88.R 88 W base ok (.slice (some ⟨gp, 0, none⟩) n cap) ps) (i : Nat) (hi : i < n) (v : S29) :
    k88.R 88 (W.setCells gp (i * 11 + 5) (vc v)) base ok (.slice (some ⟨gp, 0, none⟩) n cap) (ps.set i ⟨(rd_T88 ps i).f0, v, (rd_T88 ps i).f2⟩) ∧ W.grownBy (W.setCells gp (i * 11 + 5) (vc v)) (some gp) ∧
      (∀ j, W.frozen? ⟨gp, i * 11 + j, none⟩ = false) ∧ ∀ j, j < 11 → ∃ u, W.cell? ⟨gp, i * 11 + j, none⟩ = some u := by
  obtain ⟨c, hcl, hM, hcc, hfr⟩ := Kd.R_elem h z88 (i : Int) (by omega) (by omega)
  have hM' := k88_openM hM
  have := Kd.R_seg (okp := fun _ => False) h (i : Int) (by omega) (by omega) (c := c) (seg := vc v) (j := 5) (x' := ⟨(rd_T88 ps i).f0, v, (rd_T88 ps i).f2⟩) hcl hcc (by show _ ≤ 11; simp [vc]) (by
    rw [hM']
    exact k88_mkM W base _ ⟨(rd_T88 ps i).f0, v, (rd_T88 ps i).f2⟩) (fun _ hk => hk.elim)
  rw [Int.toNat_natCast] at this
  refine ⟨this.1, this.2, fun j => by have := hfr j; rwa [Int.toNat_natCast] at this, fun j hj => ?_⟩
  have hj' : j < c.length := by rw [hcl]; exact hj
  have := hcc j _ (List.getElem?_eq_getElem hj')
  rw [Int.toNat_natCast] at this
  exact ⟨_, this⟩
set_option maxHeartbeats 8000000 in
set_option maxRecDepth 100000 in
theorem put_none (w0 w : World) (base gM : Nat) (sv : Value) (g n cap : Nat) (ts : List S78) (t : Int) (k v : S29) (hB : Below base w0 w) (hbase : base ≤ w.heap.size)
    (hM : w.heap[gM]? = some (.cells #[.slice (some ⟨g, 0, none⟩) n cap, sv] 58 (0, 0))) (hT' : Kd.S k78 78 w base tt (.slice (some ⟨g, 0, none⟩) n cap) ts) (h0 : 0 ≤ t) (h1 : t < n) (hi : idxL k (rd_T78 ts t).f0 = -1) (hv : v.f0 = 0) :
    Calls Tryd.prog 39 #[.pointer (some ⟨gM, 0, none⟩), .int .i64 t, .agg (vc k).toArray, .agg (vc v).toArray] w fun e w' => e = .returned (.int .i64 0) ∧ Kd.S k78 78 w' base tt (.slice (some ⟨g, 0, none⟩) n cap) ts ∧ Below base w0 w' ∧ KT [78, 88] w w' := by
  have hT := hT'
  have HT := Aside0.mk hT'
  clear hT'
  obtain ⟨oki, pv, hR, hx0, hx1, hf0, hf1, hTU, hPUT⟩ := T_lend hT t h0 h1
  obtain ⟨A0, c0, rfl⟩ := Kd.R_slice hR
  obtain ⟨-, hl0, hc0⟩ := Kd.R_reads' hR
  have hm : n ≤ 9223372036854775807 := by obtain ⟨hn, -, hC⟩ := Kd.S_reads' hT; rw [hn]; exact hC.2.1
  have hn0 := hc0.2.1
  have lt0 := World.block_lt_of_cell? w _ hx0
  have y0 : w.cell? ⟨gM, 0, none⟩ = some (.slice (some ⟨g, 0, none⟩) n cap) := (blk_cell hM 0).trans rfl
  have lt1 := blk_lt hM
  have HC := Aside0.mk hc0
  have HR := Aside0.mk hR
  have HTU := Aside0.mk hTU
  have HPUT := Aside0.mk hPUT
  have HBB := Aside0.mk hB
  have HSZ := Aside0.mk hbase
  have HL : Aside0 (∀ w1, Kd.C k88 w1 A0 (rd_T78 ts t).f0.length (rd_T78 ts t).f0 → Calls Tryd.prog 54 #[.agg #[.slice A0 (rd_T78 ts t).f0.length c0, .int .i64 (rd_T78 ts t).f1], .agg (vc k).toArray] w1 fun e w' => e = .returned (.int .i64 (idxL k (rd_T78 ts t).f0)) ∧ Below w1.heap.size w1 w') := ⟨fun w1 hc => l5at_calls _ _ k A0 c0 w1 hc⟩
  clear hR hTU hPUT hB hbase hT hc0
  generalize rd_T78 ts t = T at *
  obtain ⟨ps, tn⟩ := T
  simp only [] at *
  obtain ⟨k0, k1, k2, k3, k4⟩ := k
  obtain ⟨v0, v1, v2, v3, v4⟩ := v
  obtain rfl : v0 = 0 := hv
  rw [hi] at HL
  clear hi
  have ek : (vc ⟨k0, k1, k2, k3, k4⟩).toArray = #[.int .i64 k0, .int .i64 k1, .float .f64 k2, .string k3, .int .i64 k4] := rfl
  rw [ek] at HL ⊢
  rw [show (vc ⟨0, v1, v2, v3, v4⟩).toArray = #[.int .i64 0, .int .i64 v1, .float .f64 v2, .string v3, .int .i64 v4] from rfl]
  have HB := Aside0.mk (below_alloc (below_alloc (below_alloc (Below.refl w.heap.size w) (.cells #[.int .i64 k0, .int .i64 k1, .float .f64 k2, .string k3, .int .i64 k4] 29)) (.cells #[.int .i64 0, .int .i64 v1, .float .f64 v2, .string v3, .int .i64 v4] 29)) (.cells #[.slice A0 ps.length c0, .int .i64 tn] 78))
  have BK := Aside0.mk (blk_alloc (blk_alloc (heap_alloc_new w (.cells #[.int .i64 k0, .int .i64 k1, .float .f64 k2, .string k3, .int .i64 k4] 29)) (.cells #[.int .i64 0, .int .i64 v1, .float .f64 v2, .string v3, .int .i64 v4] 29)) (.cells #[.slice A0 ps.length c0, .int .i64 tn] 78))
  have BV := Aside0.mk (blk_alloc (heap_alloc2_new w (.cells #[.int .i64 k0, .int .i64 k1, .float .f64 k2, .string k3, .int .i64 k4] 29) (.cells #[.int .i64 0, .int .i64 v1, .float .f64 v2, .string v3, .int .i64 v4] 29)) (.cells #[.slice A0 ps.length c0, .int .i64 tn] 78))
  have BX := Aside0.mk (show (((w.alloc (.cells #[.int .i64 k0, .int .i64 k1, .float .f64 k2, .string k3, .int .i64 k4] 29)).alloc (.cells #[.int .i64 0, .int .i64 v1, .float .f64 v2, .string v3, .int .i64 v4] 29)).alloc (.cells #[.slice A0 ps.length c0, .int .i64 tn] 78)).heap[w.heap.size + 2]? = some (.cells #[.slice A0 ps.length c0, .int .i64 tn] 78 (0, 0)) by simpa using heap_alloc_new ((w.alloc (.cells #[.int .i64 k0, .int .i64 k1, .float .f64 k2, .string k3, .int .i64 k4] 29)).alloc (.cells #[.int .i64 0, .int .i64 v1, .float .f64 v2, .string v3, .int .i64 v4] 29)) (.cells #[.slice A0 ps.length c0, .int .i64 tn] 78))
  have BM := Aside0.mk hM
  clear ek hM
  have hu := Tryd.underlying29
  have hu2 := Tryd.underlying78
  have hu3 := Tryd.underlying58
  have hu4 := Tryd.underlying37
  have hu5 := Tryd.underlying88
  go_enter Tryd.func39, Tryd.ntmps39
  go_wp2_with (go_at_call 54; refine (HL.out _ (Kd.C_alloc (Kd.C_alloc (Kd.C_alloc HC.out _) _) _)).mono ?_; rintro e w1 ⟨rfl, hb⟩; have HW := Aside0.mk (below_step HB.out hb); have BK1 := Aside0.mk (blk_below BK.out hb); have BV1 := Aside0.mk (blk_below BV.out hb); have BX1 := Aside0.mk (blk_below BX.out hb); clear hb; obtain ⟨kz0, kz1, kz2, kz3, kz4⟩ := c5 BK1.out; obtain ⟨vz0, vz1, vz2, vz3, vz4⟩ := c5 BV1.out; obtain ⟨xz0, xz1⟩ := c2 BX1.out)
  go_ret
  exact ⟨rfl, Kd.S_below HT.out HW.out, HBB.out.trans (HW.out.mono HSZ.out), KT.below HW.out⟩
set_option maxHeartbeats 8000000 in
set_option maxRecDepth 100000 in
theorem put_full (w0 w : World) (base gM : Nat) (sv : Value) (g n cap : Nat) (ts : List S78) (t : Int) (k v : S29) (hB : Below base w0 w) (hbase : base ≤ w.heap.size)
    (hM : w.heap[gM]? = some (.cells #[.slice (some ⟨g, 0, none⟩) n cap, sv] 58 (0, 0))) (hT' : Kd.S k78 78 w base tt (.slice (some ⟨g, 0, none⟩) n cap) ts) (h0 : 0 ≤ t) (h1 : t < n) (hi : idxL k (rd_T78 ts t).f0 = -1) (hv : ¬ v.f0 = 0) (hf : ((rd_T78 ts t).f0.length : Int) = 500 ∨ (rd_T78 ts t).f1 = 1000000000000) :
    Calls Tryd.prog 39 #[.pointer (some ⟨gM, 0, none⟩), .int .i64 t, .agg (vc k).toArray, .agg (vc v).toArray] w fun e w' => e = .returned (.int .i64 5) ∧ Kd.S k78 78 w' base tt (.slice (some ⟨g, 0, none⟩) n cap) ts ∧ Below base w0 w' ∧ KT [78, 88] w w' := by
  have hT := hT'
  have HT := Aside0.mk hT'
  clear hT'
  obtain ⟨oki, pv, hR, hx0, hx1, hf0, hf1, hTU, hPUT⟩ := T_lend hT t h0 h1
  obtain ⟨A0, c0, rfl⟩ := Kd.R_slice hR
  obtain ⟨-, hl0, hc0⟩ := Kd.R_reads' hR
  have hm : n ≤ 9223372036854775807 := by obtain ⟨hn, -, hC⟩ := Kd.S_reads' hT; rw [hn]; exact hC.2.1
  have hn0 := hc0.2.1
  have lt0 := World.block_lt_of_cell? w _ hx0
  have y0 : w.cell? ⟨gM, 0, none⟩ = some (.slice (some ⟨g, 0, none⟩) n cap) := (blk_cell hM 0).trans rfl
  have lt1 := blk_lt hM
  have HC := Aside0.mk hc0
  have HR := Aside0.mk hR
  have HTU := Aside0.mk hTU
  have HPUT := Aside0.mk hPUT
  have HBB := Aside0.mk hB
  have HSZ := Aside0.mk hbase
  have HL : Aside0 (∀ w1, Kd.C k88 w1 A0 (rd_T78 ts t).f0.length (rd_T78 ts t).f0 → Calls Tryd.prog 54 #[.agg #[.slice A0 (rd_T78 ts t).f0.length c0, .int .i64 (rd_T78 ts t).f1], .agg (vc k).toArray] w1 fun e w' => e = .returned (.int .i64 (idxL k (rd_T78 ts t).f0)) ∧ Below w1.heap.size w1 w') := ⟨fun w1 hc => l5at_calls _ _ k A0 c0 w1 hc⟩
  clear hR hTU hPUT hB hbase hT hc0
  generalize rd_T78 ts t = T at *
  obtain ⟨ps, tn⟩ := T
  simp only [] at *
  obtain ⟨k0, k1, k2, k3, k4⟩ := k
  obtain ⟨v0, v1, v2, v3, v4⟩ := v
  rw [hi] at HL
  have hv := beq_eq_false_iff_ne.mpr hv
  have HF := Aside0.mk hf
  clear hi hf
  have ek : (vc ⟨k0, k1, k2, k3, k4⟩).toArray = #[.int .i64 k0, .int .i64 k1, .float .f64 k2, .string k3, .int .i64 k4] := rfl
  rw [ek] at HL ⊢
  rw [show (vc ⟨v0, v1, v2, v3, v4⟩).toArray = #[.int .i64 v0, .int .i64 v1, .float .f64 v2, .string v3, .int .i64 v4] from rfl]
  have HB := Aside0.mk (below_alloc (below_alloc (below_alloc (Below.refl w.heap.size w) (.cells #[.int .i64 k0, .int .i64 k1, .float .f64 k2, .string k3, .int .i64 k4] 29)) (.cells #[.int .i64 v0, .int .i64 v1, .float .f64 v2, .string v3, .int .i64 v4] 29)) (.cells #[.slice A0 ps.length c0, .int .i64 tn] 78))
  have BK := Aside0.mk (blk_alloc (blk_alloc (heap_alloc_new w (.cells #[.int .i64 k0, .int .i64 k1, .float .f64 k2, .string k3, .int .i64 k4] 29)) (.cells #[.int .i64 v0, .int .i64 v1, .float .f64 v2, .string v3, .int .i64 v4] 29)) (.cells #[.slice A0 ps.length c0, .int .i64 tn] 78))
  have BV := Aside0.mk (blk_alloc (heap_alloc2_new w (.cells #[.int .i64 k0, .int .i64 k1, .float .f64 k2, .string k3, .int .i64 k4] 29) (.cells #[.int .i64 v0, .int .i64 v1, .float .f64 v2, .string v3, .int .i64 v4] 29)) (.cells #[.slice A0 ps.length c0, .int .i64 tn] 78))
  have BX := Aside0.mk (show (((w.alloc (.cells #[.int .i64 k0, .int .i64 k1, .float .f64 k2, .string k3, .int .i64 k4] 29)).alloc (.cells #[.int .i64 v0, .int .i64 v1, .float .f64 v2, .string v3, .int .i64 v4] 29)).alloc (.cells #[.slice A0 ps.length c0, .int .i64 tn] 78)).heap[w.heap.size + 2]? = some (.cells #[.slice A0 ps.length c0, .int .i64 tn] 78 (0, 0)) by simpa using heap_alloc_new ((w.alloc (.cells #[.int .i64 k0, .int .i64 k1, .float .f64 k2, .string k3, .int .i64 k4] 29)).alloc (.cells #[.int .i64 v0, .int .i64 v1, .float .f64 v2, .string v3, .int .i64 v4] 29)) (.cells #[.slice A0 ps.length c0, .int .i64 tn] 78))
  have BM := Aside0.mk hM
  clear ek hM
  have hu := Tryd.underlying29
  have hu2 := Tryd.underlying78
  have hu3 := Tryd.underlying58
  have hu4 := Tryd.underlying37
  have hu5 := Tryd.underlying88
  cases hf : ((ps.length : Int) == 500)
  · have ht : (tn == 1000000000000) = true := by rcases HF.out with h | h <;> simp_all
    go_enter Tryd.func39, Tryd.ntmps39
    go_wp2_with (go_at_call 54; refine (HL.out _ (Kd.C_alloc (Kd.C_alloc (Kd.C_alloc HC.out _) _) _)).mono ?_; rintro e w1 ⟨rfl, hb⟩; have HW := Aside0.mk (below_step HB.out hb); have BK1 := Aside0.mk (blk_below BK.out hb); have BV1 := Aside0.mk (blk_below BV.out hb); have BX1 := Aside0.mk (blk_below BX.out hb); clear hb; obtain ⟨kz0, kz1, kz2, kz3, kz4⟩ := c5 BK1.out; obtain ⟨vz0, vz1, vz2, vz3, vz4⟩ := c5 BV1.out; obtain ⟨xz0, xz1⟩ := c2 BX1.out)
    go_ret
    exact ⟨rfl, Kd.S_below HT.out HW.out, HBB.out.trans (HW.out.mono HSZ.out), KT.below HW.out⟩
  · go_enter Tryd.func39, Tryd.ntmps39
    go_wp2_with (go_at_call 54; refine (HL.out _ (Kd.C_alloc (Kd.C_alloc (Kd.C_alloc HC.out _) _) _)).mono ?_; rintro e w1 ⟨rfl, hb⟩; have HW := Aside0.mk (below_step HB.out hb); have BK1 := Aside0.mk (blk_below BK.out hb); have BV1 := Aside0.mk (blk_below BV.out hb); have BX1 := Aside0.mk (blk_below BX.out hb); clear hb; obtain ⟨kz0, kz1, kz2, kz3, kz4⟩ := c5 BK1.out; obtain ⟨vz0, vz1, vz2, vz3, vz4⟩ := c5 BV1.out; obtain ⟨xz0, xz1⟩ := c2 BX1.out)
    go_ret
    exact ⟨rfl, Kd.S_below HT.out HW.out, HBB.out.trans (HW.out.mono HSZ.out), KT.below HW.out⟩
set_option maxHeartbeats 8000000 in
set_option maxRecDepth 100000 in
theorem put_val (w0 w : World) (base gM : Nat) (sv : Value) (g n cap : Nat) (ts : List S78) (t : Int) (k v : S29) (hB : Below base w0 w) (hbase : base ≤ w.heap.size)
    (hM : w.heap[gM]? = some (.cells #[.slice (some ⟨g, 0, none⟩) n cap, sv] 58 (0, 0))) (hT : Kd.S k78 78 w base tt (.slice (some ⟨g, 0, none⟩) n cap) ts) (h0 : 0 ≤ t) (h1 : t < n) (m : Nat) (hi : idxL k (rd_T78 ts t).f0 = (m : Int)) (hml : m < (rd_T78 ts t).f0.length) (hv : ¬ v.f0 = 0) :
    Calls Tryd.prog 39 #[.pointer (some ⟨gM, 0, none⟩), .int .i64 t, .agg (vc k).toArray, .agg (vc v).toArray] w fun e w' => e = .returned (.int .i64 0) ∧ Kd.S k78 78 w' base tt (.slice (some ⟨g, 0, none⟩) n cap) (ts.set t.toNat ⟨(rd_T78 ts t).f0.set m ⟨(rd_T88 (rd_T78 ts t).f0 m).f0, v, (rd_T88 (rd_T78 ts t).f0 m).f2⟩, (rd_T78 ts t).f1⟩) ∧ Below base w0 w' ∧ KT [78, 88] w w' := by
  obtain ⟨oki, pv, hR, hx0, hx1, hf0, hf1, hTU, hPUT⟩ := T_lend hT t h0 h1
  obtain ⟨A0, c0, rfl⟩ := Kd.R_slice hR
  obtain ⟨-, hl0, hc0⟩ := Kd.R_reads' hR
  have hm : n ≤ 9223372036854775807 := by obtain ⟨hn, -, hC⟩ := Kd.S_reads' hT; rw [hn]; exact hC.2.1
  have hn0 := hc0.2.1
  have lt0 := World.block_lt_of_cell? w _ hx0
  have y0 : w.cell? ⟨gM, 0, none⟩ = some (.slice (some ⟨g, 0, none⟩) n cap) := (blk_cell hM 0).trans rfl
  have lt1 := blk_lt hM
  have HC := Aside0.mk hc0
  have HR := Aside0.mk hR
  have HTU := Aside0.mk hTU
  have HPUT := Aside0.mk hPUT
  have HBB := Aside0.mk hB
  have HSZ := Aside0.mk hbase
  have HL : Aside0 (∀ w1, Kd.C k88 w1 A0 (rd_T78 ts t).f0.length (rd_T78 ts t).f0 → Calls Tryd.prog 54 #[.agg #[.slice A0 (rd_T78 ts t).f0.length c0, .int .i64 (rd_T78 ts t).f1], .agg (vc k).toArray] w1 fun e w' => e = .returned (.int .i64 (idxL k (rd_T78 ts t).f0)) ∧ Below w1.heap.size w1 w') := ⟨fun w1 hc => l5at_calls _ _ k A0 c0 w1 hc⟩
  clear hR hTU hPUT hB hbase hT hc0
  generalize rd_T78 ts t = T at *
  obtain ⟨ps, tn⟩ := T
  simp only [] at *
  obtain ⟨k0, k1, k2, k3, k4⟩ := k
  obtain ⟨v0, v1, v2, v3, v4⟩ := v
  rw [hi] at HL
  have hv := beq_eq_false_iff_ne.mpr hv
  clear hi
  have ek : (vc ⟨k0, k1, k2, k3, k4⟩).toArray = #[.int .i64 k0, .int .i64 k1, .float .f64 k2, .string k3, .int .i64 k4] := rfl
  rw [ek] at HL ⊢
  rw [show (vc ⟨v0, v1, v2, v3, v4⟩).toArray = #[.int .i64 v0, .int .i64 v1, .float .f64 v2, .string v3, .int .i64 v4] from rfl]
  have HB := Aside0.mk (below_alloc (below_alloc (below_alloc (Below.refl w.heap.size w) (.cells #[.int .i64 k0, .int .i64 k1, .float .f64 k2, .string k3, .int .i64 k4] 29)) (.cells #[.int .i64 v0, .int .i64 v1, .float .f64 v2, .string v3, .int .i64 v4] 29)) (.cells #[.slice A0 ps.length c0, .int .i64 tn] 78))
  have BK := Aside0.mk (blk_alloc (blk_alloc (heap_alloc_new w (.cells #[.int .i64 k0, .int .i64 k1, .float .f64 k2, .string k3, .int .i64 k4] 29)) (.cells #[.int .i64 v0, .int .i64 v1, .float .f64 v2, .string v3, .int .i64 v4] 29)) (.cells #[.slice A0 ps.length c0, .int .i64 tn] 78))
  have BV := Aside0.mk (blk_alloc (heap_alloc2_new w (.cells #[.int .i64 k0, .int .i64 k1, .float .f64 k2, .string k3, .int .i64 k4] 29) (.cells #[.int .i64 v0, .int .i64 v1, .float .f64 v2, .string v3, .int .i64 v4] 29)) (.cells #[.slice A0 ps.length c0, .int .i64 tn] 78))
  have BX := Aside0.mk (show (((w.alloc (.cells #[.int .i64 k0, .int .i64 k1, .float .f64 k2, .string k3, .int .i64 k4] 29)).alloc (.cells #[.int .i64 v0, .int .i64 v1, .float .f64 v2, .string v3, .int .i64 v4] 29)).alloc (.cells #[.slice A0 ps.length c0, .int .i64 tn] 78)).heap[w.heap.size + 2]? = some (.cells #[.slice A0 ps.length c0, .int .i64 tn] 78 (0, 0)) by simpa using heap_alloc_new ((w.alloc (.cells #[.int .i64 k0, .int .i64 k1, .float .f64 k2, .string k3, .int .i64 k4] 29)).alloc (.cells #[.int .i64 v0, .int .i64 v1, .float .f64 v2, .string v3, .int .i64 v4] 29)) (.cells #[.slice A0 ps.length c0, .int .i64 tn] 78))
  have BM := Aside0.mk hM
  clear ek hM
  have hu := Tryd.underlying29
  have hu2 := Tryd.underlying78
  have hu3 := Tryd.underlying58
  have hu4 := Tryd.underlying37
  have hu5 := Tryd.underlying88
  obtain ⟨gp, cp, he, hgb, hgl, cells, hgc⟩ := Kd.R_form HR.out (by omega)
  injection he with he1 _ he3
  subst he1; subst he3
  have OK := Aside0.mk (HR.out.1 gp (by simp [Value.ownBlock]))
  have hq0 : 0 ≤ (m : Int) := by omega
  have hq1 : (m : Int) < (ps.length : Int) := by omega
  have nv := bne_f hv
  have HP := Aside0.mk (fun W1 (hb : Below w.heap.size w W1) => P_val (Kd.R_below HR.out hb) m hml ⟨v0, v1, v2, v3, v4⟩)
  have GC := Aside0.mk hgc
  clear hgc hml
  go_enter Tryd.func39, Tryd.ntmps39
  go_wp2_with (go_at_call 54; refine (HL.out _ (Kd.C_alloc (Kd.C_alloc (Kd.C_alloc HC.out _) _) _)).mono ?_; rintro e w1 ⟨rfl, hb⟩; have HW := Aside0.mk (below_step HB.out hb); have BK1 := Aside0.mk (blk_below BK.out hb); have BV1 := Aside0.mk (blk_below BV.out hb); have BX1 := Aside0.mk (blk_below BX.out hb); clear hb; obtain ⟨kz0, kz1, kz2, kz3, kz4⟩ := c5 BK1.out; obtain ⟨vz0, vz1, vz2, vz3, vz4⟩ := c5 BV1.out; obtain ⟨xz0, xz1⟩ := c2 BX1.out; obtain ⟨hv1, hv2, hv3, hv4⟩ := HP.out w1 HW.out; have HV1 := Aside0.mk hv1; have HV2 := Aside0.mk hv2; have fz5 := hv3 5; have fz6 := hv3 6; have fz7 := hv3 7; have fz8 := hv3 8; have fz9 := hv3 9; obtain ⟨u5, cz5⟩ := hv4 5 (by omega); obtain ⟨u6, cz6⟩ := hv4 6 (by omega); obtain ⟨u7, cz7⟩ := hv4 7 (by omega); obtain ⟨u8, cz8⟩ := hv4 8 (by omega); obtain ⟨u9, cz9⟩ := hv4 9 (by omega); clear hv1 hv2 hv3 hv4)
  go_ret
  have hle := Nat.le_trans HW.out.size HV2.out.size
  exact ⟨rfl, (HPUT.out _ hle (fun k hk hn => (HV2.out.block k (Nat.lt_of_lt_of_le hk HW.out.size) (fun e => hn (by injection e with e; subst e; exact OK.out))).trans (HW.out.block k hk)) _ _ (Kd.R_mono HV1.out (fun k hk => .inl hk))).1 rfl,
    (HBB.out.trans (HW.out.mono HSZ.out)).grown HV2.out (Nat.le_trans HSZ.out HW.out.size) (fun k hk => by injection hk with hk; subst hk; exact hgb), (KT.below HW.out).trans (KT.grown HV2.out (fun k hk => by injection hk with hk; subst hk; exact ⟨cells, 88, blk_below GC.out HW.out, by simp⟩))⟩
end Go.Proofs.YtclploookcjcbaaDoor.PIde
namespace Go.Proofs.YtclploookcjcbaaDoor.PIde
open Go.RowKit Go.Proofs.YtclploookcjcbaaDoorW.PrintWords Go.Proofs.YtclploookcjcbaaDoorW.PrintLast Go.Proofs.YtclploookcjcbaaDoorW.PrintMore
attribute [local go_sem] max2_int min2_int max_two min_two max_three min_three max_four min_four   -- for this text's walks alone
set_option linter.unusedVariables false
set_option linter.unusedSimpArgs false
theorem info88t : (Tryd.prog.info? 88).map (fun i => (i.zero, i.size, i.bytes)) = some (some (.agg #[.int .i64 0, .int .i64 0, .float .f64 0, .string ⟨#[]⟩, .int .i64 0, .int .i64 0, .int .i64 0, .float .f64 0, .string ⟨#[]⟩, .int .i64 0, .int .i64 0]), 11, 104) := by kernel_rfl
theorem take_erase (ps : List S88) (m j : Nat) (hj : j < ps.length) : (ps.take (j + 1)).eraseIdx m = if j = m then (ps.take j).eraseIdx m else (ps.take j).eraseIdx m ++ [ps.getD j z88] := by
  rw [List.take_succ_eq_append_getElem hj]
  have hl : (ps.take j).length = j := by rw [List.length_take]; omega
  split
  · rename_i h
    subst h
    rw [List.eraseIdx_append_of_length_le (by omega), hl, Nat.sub_self, List.eraseIdx_of_length_le (l := ps.take j) (by omega)]
    simp
  · rename_i h
    rcases Nat.lt_or_ge j m with h1 | h1
    · rw [List.eraseIdx_of_length_le (by rw [List.length_append, hl]; simp; omega), List.eraseIdx_of_length_le (l := ps.take j) (by omega)]
      simp [List.getD_eq_getElem?_getD, List.getElem?_eq_getElem hj]
    · rw [List.eraseIdx_append_of_lt_length (by omega)]
      simp [List.getD_eq_getElem?_getD, List.getElem?_eq_getElem hj]
set_option maxHeartbeats 8000000 in
set_option maxRecDepth 100000 in
theorem put_del (w0 w : World) (base gM : Nat) (sv : Value) (g n cap : Nat) (ts : List S78) (t : Int) (k v : S29) (hB : Below base w0 w) (hbase : base ≤ w.heap.size)
    (hM : w.heap[gM]? = some (.cells #[.slice (some ⟨g, 0, none⟩) n cap, sv] 58 (0, 0))) (hT' : Kd.S k78 78 w base tt (.slice (some ⟨g, 0, none⟩) n cap) ts) (h0 : 0 ≤ t) (h1 : t < n) (m : Nat) (hi : idxL k (rd_T78 ts t).f0 = (m : Int)) (hml : m < (rd_T78 ts t).f0.length) (hv : v.f0 = 0) (h5 : (rd_T78 ts t).f0.length ≤ 1000) :
    Calls Tryd.prog 39 #[.pointer (some ⟨gM, 0, none⟩), .int .i64 t, .agg (vc k).toArray, .agg (vc v).toArray] w fun e w' => e = .returned (.int .i64 0) ∧ Kd.S k78 78 w' base tt (.slice (some ⟨g, 0, none⟩) n cap) (ts.set t.toNat ⟨(rd_T78 ts t).f0.eraseIdx m, (rd_T78 ts t).f1⟩) ∧ Below base w0 w' ∧ KT [78, 88] w w' := by
  obtain ⟨oki, pv, hR, hx0, hx1, hf0, hf1, hTU, hPUT⟩ := T_lend hT' t h0 h1
  obtain ⟨A0, c0, rfl⟩ := Kd.R_slice hR
  obtain ⟨-, hl0, hc0⟩ := Kd.R_reads' hR
  have hm : n ≤ 9223372036854775807 := by obtain ⟨hn, -, hC⟩ := Kd.S_reads' hT'; rw [hn]; exact hC.2.1
  have hn0 := hc0.2.1
  have lt0 := World.block_lt_of_cell? w _ hx0
  have y0 : w.cell? ⟨gM, 0, none⟩ = some (.slice (some ⟨g, 0, none⟩) n cap) := (blk_cell hM 0).trans rfl
  have lt1 := blk_lt hM
  have HC := Aside0.mk hc0
  have HR := Aside0.mk hR
  have HTU := Aside0.mk hTU
  have HPUT := Aside0.mk hPUT
  have HBB := Aside0.mk hB
  have HSZ := Aside0.mk hbase
  have HL : Aside0 (∀ w1, Kd.C k88 w1 A0 (rd_T78 ts t).f0.length (rd_T78 ts t).f0 → Calls Tryd.prog 54 #[.agg #[.slice A0 (rd_T78 ts t).f0.length c0, .int .i64 (rd_T78 ts t).f1], .agg (vc k).toArray] w1 fun e w' => e = .returned (.int .i64 (idxL k (rd_T78 ts t).f0)) ∧ Below w1.heap.size w1 w') := ⟨fun w1 hc => l5at_calls _ _ k A0 c0 w1 hc⟩
  clear hR hTU hPUT hB hbase hc0
  generalize rd_T78 ts t = T at *
  obtain ⟨ps, tn⟩ := T
  simp only [] at *
  obtain ⟨k0, k1, k2, k3, k4⟩ := k
  obtain ⟨v0, v1, v2, v3, v4⟩ := v
  obtain rfl : v0 = 0 := hv
  rw [hi] at HL
  clear hi
  have ek : (vc ⟨k0, k1, k2, k3, k4⟩).toArray = #[.int .i64 k0, .int .i64 k1, .float .f64 k2, .string k3, .int .i64 k4] := rfl
  rw [ek] at HL ⊢
  rw [show (vc ⟨0, v1, v2, v3, v4⟩).toArray = #[.int .i64 0, .int .i64 v1, .float .f64 v2, .string v3, .int .i64 v4] from rfl]
  have HB := Aside0.mk (below_alloc (below_alloc (below_alloc (Below.refl w.heap.size w) (.cells #[.int .i64 k0, .int .i64 k1, .float .f64 k2, .string k3, .int .i64 k4] 29)) (.cells #[.int .i64 0, .int .i64 v1, .float .f64 v2, .string v3, .int .i64 v4] 29)) (.cells #[.slice A0 ps.length c0, .int .i64 tn] 78))
  have BK := Aside0.mk (blk_alloc (blk_alloc (heap_alloc_new w (.cells #[.int .i64 k0, .int .i64 k1, .float .f64 k2, .string k3, .int .i64 k4] 29)) (.cells #[.int .i64 0, .int .i64 v1, .float .f64 v2, .string v3, .int .i64 v4] 29)) (.cells #[.slice A0 ps.length c0, .int .i64 tn] 78))
  have BV := Aside0.mk (blk_alloc (heap_alloc2_new w (.cells #[.int .i64 k0, .int .i64 k1, .float .f64 k2, .string k3, .int .i64 k4] 29) (.cells #[.int .i64 0, .int .i64 v1, .float .f64 v2, .string v3, .int .i64 v4] 29)) (.cells #[.slice A0 ps.length c0, .int .i64 tn] 78))
  have BX := Aside0.mk (show (((w.alloc (.cells #[.int .i64 k0, .int .i64 k1, .float .f64 k2, .string k3, .int .i64 k4] 29)).alloc (.cells #[.int .i64 0, .int .i64 v1, .float .f64 v2, .string v3, .int .i64 v4] 29)).alloc (.cells #[.slice A0 ps.length c0, .int .i64 tn] 78)).heap[w.heap.size + 2]? = some (.cells #[.slice A0 ps.length c0, .int .i64 tn] 78 (0, 0)) by simpa using heap_alloc_new ((w.alloc (.cells #[.int .i64 k0, .int .i64 k1, .float .f64 k2, .string k3, .int .i64 k4] 29)).alloc (.cells #[.int .i64 0, .int .i64 v1, .float .f64 v2, .string v3, .int .i64 v4] 29)) (.cells #[.slice A0 ps.length c0, .int .i64 tn] 78))
  have BM := Aside0.mk hM
  clear ek hM
  have hu := Tryd.underlying29
  have hu2 := Tryd.underlying78
  have hu3 := Tryd.underlying58
  have hu4 := Tryd.underlying37
  have hu5 := Tryd.underlying88
  have hq0 : 0 ≤ (m : Int) := by omega
  have H5 := Aside0.mk h5
  have HTB := Aside0.mk (Kd.S_typed hT' g (by simp [Value.ownBlock]))
  have HGB := Aside0.mk (Kd.S_base hT' g (by simp [Value.ownBlock]))
  clear h5 hT'
  go_enter Tryd.func39, Tryd.ntmps39
  go_wp2_with (go_at_call 54; refine (HL.out _ (Kd.C_alloc (Kd.C_alloc (Kd.C_alloc HC.out _) _) _)).mono ?_; rintro e w1 ⟨rfl, hb⟩; have HW := Aside0.mk (below_step HB.out hb); have BK1 := Aside0.mk (blk_below BK.out hb); have BV1 := Aside0.mk (blk_below BV.out hb); have BX1 := Aside0.mk (blk_below BX.out hb); clear hb; obtain ⟨kz0, kz1, kz2, kz3, kz4⟩ := c5 BK1.out; obtain ⟨vz0, vz1, vz2, vz3, vz4⟩ := c5 BV1.out; obtain ⟨xz0, xz1⟩ := c2 BX1.out)
  go_loopg [11, 12, 42] ps.length (fun d v11 v12 v42 wr => ∃ j : Nat, v42 = .int .i64 (j : Int) ∧ Aside0 (j + d = ps.length) ∧ Aside0 (k88.R 88 wr w.heap.size tt v11 ((ps.take j).eraseIdx m)) ∧ Aside0 (Below w.heap.size w wr))
  case atStart => exact ⟨0, rfl, ⟨Nat.zero_add _⟩, ⟨by simpa using Kd.R_nil k88 88 _ _ _⟩, HW⟩
  case round =>
    clear HB HW BK1 BV1 BX1 BK BV BX HL kz0 kz1 kz2 kz3 kz4 vz0 vz1 vz2 vz3 vz4 xz0 xz1
    obtain ⟨j, rfl, HD, HO, HW⟩ := hrel
    have hm5 := H5.out
    cases gk with
    | zero =>
      have c1 : decide ((j : Int) < (ps.length : Int)) = false := decide_eq_false (by have := HD.out; omega)
      have c1n : decide (j < ps.length) = false := decide_eq_false (by have := HD.out; omega)
      have hO := HO.out
      rw [List.take_of_length_le (by have := HD.out; omega)] at hO
      have HO2 := Aside0.mk hO
      have y1 := (HW.out.cell lt1).trans y0
      have gx0 := (HW.out.cell lt0).trans hx0
      have gf0 := (HW.out.frozen lt0).trans hf0
      obtain ⟨lA, lc, le⟩ := Kd.R_slice hO
      subst le
      clear hm5 hO HO
      go_wp2
      go_ret
      obtain ⟨cells, hgc⟩ := HTB.out
      exact ⟨rfl, (HPUT.out wr HW.out.size (fun k hk _ => HW.out.block k hk) _ _ (Kd.R_lower (Kd.R_mono (Kd.R_bound HO2.out) (fun k hk => .inr hk.2.1)) HSZ.out)).2, (HBB.out.trans (HW.out.mono HSZ.out)).setCell HGB.out _, (KT.below HW.out).trans (KT.set (blk_below hgc HW.out) (by simp) _)⟩
    | succ d =>
      have hj : j < ps.length := by have := HD.out; omega
      have c1 : decide ((j : Int) < (ps.length : Int)) = true := decide_eq_true (by omega)
      have c1n : decide (j < ps.length) = true := decide_eq_true hj
      have c2 : decide (0 ≤ (j : Int)) = true := decide_eq_true (by omega)
      obtain ⟨ad, e1, hz0, hz1, hz2, hz3, hz4, hz5, hz6, hz7, hz8, hz9, hz10⟩ := at_T88 (Kd.C_below HC.out HW.out) (j : Int) (by omega) (by omega)
      cases e1
      simp only [Int.toNat_natCast] at hz0 hz1 hz2 hz3 hz4 hz5 hz6 hz7 hz8 hz9 hz10
      have q1 : 0 ≤ (j : Int) := by omega
      have q2 : (j : Int) < (ps.length : Int) := by omega
      have q3 : IntKind.i64.wrap ((j : Int) + 1) = ((j + 1 : Nat) : Int) := by rw [IntWalk.i64_in _ ⟨by omega, by omega⟩]; omega
      have HS := Aside0.mk (take_erase ps m j hj)
      rw [show ps.getD j z88 = (rd_T88 ps (j : Int)) by simp [rd_T88]] at HS
      have HE : Aside0 (((ps.take j).eraseIdx m).length ≤ 1000) := ⟨by have := H5.out; have := List.length_eraseIdx_le (ps.take j) m; rw [List.length_take] at this; omega⟩
      clear hm5 hj
      by_cases hjm : j = m
      · have hq : (((j : Nat) : Int) != (m : Int)) = false := by subst hjm; exact bne_self_eq_false _
        have hqn : (j != m) = false := by subst hjm; exact bne_self_eq_false _
        have HS2 := Aside0.mk (HS.out.trans (if_pos hjm))
        have HJ := Aside0.mk hjm
        clear hjm HS
        go_wp2
        go_roundg d
        case measure => omega
        case rel => exact ⟨j + 1, by first | rfl | (rw [q3]; done) | simp, ⟨by have := HD.out; omega⟩, ⟨by rw [HS2.out]; exact Kd.R_alloc HO.out _⟩, ⟨below_alloc HW.out _⟩⟩
      · have hq : (((j : Nat) : Int) != (m : Int)) = true := bne_iff_ne.mpr (by omega)
        have hqn : (j != m) = true := bne_iff_ne.mpr hjm
        have HS2 := Aside0.mk (HS.out.trans (if_neg hjm))
        have HJ := Aside0.mk hjm
        clear hjm HS
        obtain ⟨lA, lc, le⟩ := Kd.R_slice HO.out
        subst le
        go_wp2_with (at_builtin; (refine Kd.R_append k88 (w0 := w) w.heap.size (by rfl) (.tmp 50) (.tmp 52) 76 88 (.agg #[.int .i64 0, .int .i64 0, .float .f64 0, .string ⟨#[]⟩, .int .i64 0, .int .i64 0, .int .i64 0, .float .f64 0, .string ⟨#[]⟩, .int .i64 0, .int .i64 0]) 104 (by rfl) Tryd.underlying76 info88t (by rfl) (by decide) (by decide) (.slice lA ((ps.take j).eraseIdx m).length lc) ((ps.take j).eraseIdx m) (rd_T88 ps (j : Int)) [.int .i64 (rd_T88 ps (j : Int)).f0.f0, .int .i64 (rd_T88 ps (j : Int)).f0.f1, .float .f64 (rd_T88 ps (j : Int)).f0.f2, .string (rd_T88 ps (j : Int)).f0.f3, .int .i64 (rd_T88 ps (j : Int)).f0.f4, .int .i64 (rd_T88 ps (j : Int)).f1.f0, .int .i64 (rd_T88 ps (j : Int)).f1.f1, .float .f64 (rd_T88 ps (j : Int)).f1.f2, .string (rd_T88 ps (j : Int)).f1.f3, .int .i64 (rd_T88 ps (j : Int)).f1.f4, .int .i64 (rd_T88 ps (j : Int)).f2] tt (fun _ => False) (by rfl) (by first | rfl | simp [Act.eval, Act.put]) (k88_mkM _ _ _ (rd_T88 ps (j : Int))) (fun _ hk => hk.elim) (fun _ _ => trivial) (Kd.R_alloc HO.out _) (below_alloc HW.out _) (below_alloc HW.out _).size (by have := HE.out; omega) ?_; intro lv1 w2 hr2 hb2 _ _; have HO2 := Aside0.mk hr2; have HW2 := Aside0.mk hb2; clear hr2 hb2))
        go_roundg d
        case measure => omega
        case rel => exact ⟨j + 1, by first | rfl | (rw [q3]; done) | simp, ⟨by have := HD.out; omega⟩, ⟨by rw [HS2.out]; exact HO2.out⟩, HW2⟩
end Go.Proofs.YtclploookcjcbaaDoor.PIde
namespace Go.Proofs.YtclploookcjcbaaDoor.PIde
open Go.RowKit Go.Proofs.YtclploookcjcbaaDoorW.PrintWords Go.Proofs.YtclploookcjcbaaDoorW.PrintLast Go.Proofs.YtclploookcjcbaaDoorW.PrintMore
attribute [local go_sem] max2_int min2_int max_two min_two max_three min_three max_four min_four   -- for this text's walks alone
set_option linter.unusedVariables false
set_option linter.unusedSimpArgs false
theorem rd_set (ts : List S78) (t : Int) (x : S78) (h0 : 0 ≤ t) (h1 : t < ts.length) : rd_T78 (ts.set t.toNat x) t = x := by
  have : t.toNat < ts.length := by omega
  simp [rd_T78, List.getD_eq_getElem?_getD, this]
theorem alloc_drew (W : World) (o : Obj) : (W.alloc o).drew = W.drew.alloc o := rfl
theorem blk_far {W W2 : World} {g j b : Nat} {u : Value} {o : Obj} (e : W2 = W.setCell ⟨g, j, none⟩ u) (h : W.heap[b]? = some o) (hn : b ≠ g) : W2.heap[b]? = some o := by
  rw [e, Below.heap_setCell W ⟨g, j, none⟩ u b hn]; exact h
/-- One table, lent behind a store of its turns. -/
theorem T_lend2 {W : World} {base g n cap : Nat} {ts : List S78} (h : Kd.S k78 78 W base tt (.slice (some ⟨g, 0, none⟩) n cap) ts) (t : Int) (h0 : 0 ≤ t) (h1 : t < n) (tn' : Int) (W2 : World) (e2 : W2 = W.setCell ⟨g, t.toNat * 2 + 1, none⟩ (.int .i64 tn')) :
    ∃ (oki : Nat → Prop) (pv : Value), k88.R 88 W2 base oki pv (rd_T78 ts t).f0 ∧ W2.cell? ⟨g, t.toNat * 2, none⟩ = some pv ∧ W.cell? ⟨g, t.toNat * 2, none⟩ = some pv ∧ W2.frozen? ⟨g, t.toNat * 2, none⟩ = false ∧
      ∀ W1 : World, W2.heap.size ≤ W1.heap.size → (∀ k, k < W2.heap.size → ¬ oki k → W1.heap[k]? = W2.heap[k]?) → ∀ pv' ps', k88.R 88 W1 base (fun k => oki k ∨ W2.heap.size ≤ k) pv' ps' →
        Kd.S k78 78 (W1.setCell ⟨g, t.toNat * 2, none⟩ pv') base tt (.slice (some ⟨g, 0, none⟩) n cap) (ts.set t.toNat ⟨ps', tn'⟩) := by
  obtain ⟨ok1, pv1, -, hx0, -, -, -, hTU, -⟩ := T_lend h t h0 h1
  have hn := (Kd.S_reads' h).1
  have h2 := hTU tn'
  rw [← e2] at h2
  obtain ⟨oki, pv, hR, hy0, -, hf0, -, -, hPUT⟩ := T_lend h2 t h0 h1
  rw [rd_set ts t _ h0 (by omega)] at hR hPUT
  have e : W2.cell? ⟨g, t.toNat * 2, none⟩ = W.cell? ⟨g, t.toNat * 2, none⟩ := by
    rw [e2]
    exact World.cell?_setCell_other _ _ _ _ (by intro e; injection e with _ e; omega)
  refine ⟨oki, pv, hR, hy0, e ▸ hy0, hf0, fun W1 hs hb pv' ps' hR1 => ?_⟩
  have := (hPUT W1 hs hb pv' ps' hR1).2
  simpa using this
set_option maxHeartbeats 8000000 in
set_option maxRecDepth 100000 in
theorem put_new (w0 w : World) (base gM : Nat) (sv : Value) (g n cap : Nat) (ts : List S78) (t : Int) (k v : S29) (hB : Below base w0 w) (hbase : base ≤ w.heap.size)
    (hM : w.heap[gM]? = some (.cells #[.slice (some ⟨g, 0, none⟩) n cap, sv] 58 (0, 0))) (hT' : Kd.S k78 78 w base tt (.slice (some ⟨g, 0, none⟩) n cap) ts) (h0 : 0 ≤ t) (h1 : t < n) (hi : idxL k (rd_T78 ts t).f0 = -1) (hv : ¬ v.f0 = 0) (h5 : (rd_T78 ts t).f0.length < 500) (ht0 : 0 ≤ (rd_T78 ts t).f1) (ht1 : (rd_T78 ts t).f1 < 1000000000000) :
    Calls Tryd.prog 39 #[.pointer (some ⟨gM, 0, none⟩), .int .i64 t, .agg (vc k).toArray, .agg (vc v).toArray] w fun e w' => e = .returned (.int .i64 0) ∧ Kd.S k78 78 w' base tt (.slice (some ⟨g, 0, none⟩) n cap) (ts.set t.toNat ⟨(rd_T78 ts t).f0 ++ [⟨k, v, (rd_T78 ts t).f1 + 1⟩], (rd_T78 ts t).f1 + 1⟩) ∧ Below base w0 w' ∧ KT [78, 88] w w' := by
  obtain ⟨oki, pv, hR, hx0, hx1, hf0, hf1, hTU, hPUT⟩ := T_lend hT' t h0 h1
  obtain ⟨A0, c0, rfl⟩ := Kd.R_slice hR
  obtain ⟨-, hl0, hc0⟩ := Kd.R_reads' hR
  have hm : n ≤ 9223372036854775807 := by obtain ⟨hn, -, hC⟩ := Kd.S_reads' hT'; rw [hn]; exact hC.2.1
  have hn0 := hc0.2.1
  have lt0 := World.block_lt_of_cell? w _ hx0
  have y0 : w.cell? ⟨gM, 0, none⟩ = some (.slice (some ⟨g, 0, none⟩) n cap) := (blk_cell hM 0).trans rfl
  have lt1 := blk_lt hM
  have HC := Aside0.mk hc0
  have HR := Aside0.mk hR
  have HTU := Aside0.mk hTU
  have HPUT := Aside0.mk hPUT
  have HBB := Aside0.mk hB
  have HSZ := Aside0.mk hbase
  have HL : Aside0 (∀ w1, Kd.C k88 w1 A0 (rd_T78 ts t).f0.length (rd_T78 ts t).f0 → Calls Tryd.prog 54 #[.agg #[.slice A0 (rd_T78 ts t).f0.length c0, .int .i64 (rd_T78 ts t).f1], .agg (vc k).toArray] w1 fun e w' => e = .returned (.int .i64 (idxL k (rd_T78 ts t).f0)) ∧ Below w1.heap.size w1 w') := ⟨fun w1 hc => l5at_calls _ _ k A0 c0 w1 hc⟩
  clear hR hTU hPUT hB hbase hc0
  have HTB := Aside0.mk (Kd.S_typed hT' g (by simp [Value.ownBlock]))
  have HGB := Aside0.mk (Kd.S_base hT' g (by simp [Value.ownBlock]))
  have HGL := Kd.S_lt hT' g (by simp [Value.ownBlock])
  have HL2 := Aside0.mk (fun W1 (hb : Below w.heap.size w W1) W2 e2 => T_lend2 (Kd.S_below hT' hb) t h0 h1 ((rd_T78 ts t).f1 + 1) W2 e2)
  clear hT'
  generalize rd_T78 ts t = T at *
  obtain ⟨ps, tn⟩ := T
  simp only [] at *
  obtain ⟨k0, k1, k2, k3, k4⟩ := k
  obtain ⟨v0, v1, v2, v3, v4⟩ := v
  rw [hi] at HL
  have hv := beq_eq_false_iff_ne.mpr hv
  clear hi
  have ek : (vc ⟨k0, k1, k2, k3, k4⟩).toArray = #[.int .i64 k0, .int .i64 k1, .float .f64 k2, .string k3, .int .i64 k4] := rfl
  rw [ek] at HL ⊢
  rw [show (vc ⟨v0, v1, v2, v3, v4⟩).toArray = #[.int .i64 v0, .int .i64 v1, .float .f64 v2, .string v3, .int .i64 v4] from rfl]
  have HB := Aside0.mk (below_alloc (below_alloc (below_alloc (Below.refl w.heap.size w) (.cells #[.int .i64 k0, .int .i64 k1, .float .f64 k2, .string k3, .int .i64 k4] 29)) (.cells #[.int .i64 v0, .int .i64 v1, .float .f64 v2, .string v3, .int .i64 v4] 29)) (.cells #[.slice A0 ps.length c0, .int .i64 tn] 78))
  have BK := Aside0.mk (blk_alloc (blk_alloc (heap_alloc_new w (.cells #[.int .i64 k0, .int .i64 k1, .float .f64 k2, .string k3, .int .i64 k4] 29)) (.cells #[.int .i64 v0, .int .i64 v1, .float .f64 v2, .string v3, .int .i64 v4] 29)) (.cells #[.slice A0 ps.length c0, .int .i64 tn] 78))
  have BV := Aside0.mk (blk_alloc (heap_alloc2_new w (.cells #[.int .i64 k0, .int .i64 k1, .float .f64 k2, .string k3, .int .i64 k4] 29) (.cells #[.int .i64 v0, .int .i64 v1, .float .f64 v2, .string v3, .int .i64 v4] 29)) (.cells #[.slice A0 ps.length c0, .int .i64 tn] 78))
  have BX := Aside0.mk (show (((w.alloc (.cells #[.int .i64 k0, .int .i64 k1, .float .f64 k2, .string k3, .int .i64 k4] 29)).alloc (.cells #[.int .i64 v0, .int .i64 v1, .float .f64 v2, .string v3, .int .i64 v4] 29)).alloc (.cells #[.slice A0 ps.length c0, .int .i64 tn] 78)).heap[w.heap.size + 2]? = some (.cells #[.slice A0 ps.length c0, .int .i64 tn] 78 (0, 0)) by simpa using heap_alloc_new ((w.alloc (.cells #[.int .i64 k0, .int .i64 k1, .float .f64 k2, .string k3, .int .i64 k4] 29)).alloc (.cells #[.int .i64 v0, .int .i64 v1, .float .f64 v2, .string v3, .int .i64 v4] 29)) (.cells #[.slice A0 ps.length c0, .int .i64 tn] 78))
  have BM := Aside0.mk hM
  clear ek hM
  have hu := Tryd.underlying29
  have hu2 := Tryd.underlying78
  have hu3 := Tryd.underlying58
  have hu4 := Tryd.underlying37
  have hu5 := Tryd.underlying88
  have H5 := Aside0.mk h5
  have hf : ((ps.length : Int) == 500) = false := beq_eq_false_iff_ne.mpr (by omega)
  have hfn : (ps.length == 500) = false := beq_eq_false_iff_ne.mpr (by omega)
  have ht : (tn == 1000000000000) = false := beq_eq_false_iff_ne.mpr (by omega)
  have htn : tn + 1 ≤ 1000000000000 := by omega
  have hne : gM ≠ g := fun e => by
    obtain ⟨cells, hc⟩ := HTB.out
    have := BM.out
    rw [e, hc] at this
    injection this with this
    injection this with _ this
    exact absurd this (by decide)
  clear h5
  go_enter Tryd.func39, Tryd.ntmps39
  go_wp2_with (go_at_call 54; refine (HL.out _ (Kd.C_alloc (Kd.C_alloc (Kd.C_alloc HC.out _) _) _)).mono ?_; rintro e w1 ⟨rfl, hb⟩; have HW := Aside0.mk (below_step HB.out hb); have BK1 := Aside0.mk (blk_below BK.out hb); have BV1 := Aside0.mk (blk_below BV.out hb); have BX1 := Aside0.mk (blk_below BX.out hb); clear hb; obtain ⟨kz0, kz1, kz2, kz3, kz4⟩ := c5 BK1.out; obtain ⟨vz0, vz1, vz2, vz3, vz4⟩ := c5 BV1.out; obtain ⟨xz0, xz1⟩ := c2 BX1.out; have gx1 := (HW.out.cell lt0).trans hx1; have gf1 := (HW.out.frozen lt0).trans hf1; have y1 := (HW.out.cell lt1).trans y0)
  obtain ⟨W2, e2⟩ : ∃ W2, W2 = w1.setCell ⟨g, t.toNat * 2 + 1, none⟩ (.int .i64 (tn + 1)) := ⟨_, rfl⟩
  obtain ⟨ok2, pv2, hR2, hy0, hy1, hyf, hPUT2⟩ := HL2.out w1 HW.out W2 e2
  obtain rfl : .slice A0 ps.length c0 = pv2 := Option.some.inj (((HW.out.cell lt0).trans hx0).symm.trans hy1)
  have hs2 : W2.heap.size = w1.heap.size := by rw [e2]; simp
  have HKT := Aside0.mk (show KT [78, 88] w W2 by
    obtain ⟨cells, hgc⟩ := HTB.out
    rw [e2]
    exact (KT.below HW.out).trans (KT.set (blk_below hgc HW.out) (by simp) _))
  have HB2 := Aside0.mk (show Below base w0 W2 by rw [e2]; exact (HBB.out.trans (HW.out.mono HSZ.out)).setCell HGB.out _)
  have ng1 : w.heap.size ≠ g := by omega
  have ng2 : w.heap.size + 1 ≠ g := by omega
  have ng3 : w.heap.size + 1 + 1 ≠ g := by omega
  have far : ∀ b o u, w1.cell? ⟨b, o, none⟩ = some u → b ≠ g → W2.cell? ⟨b, o, none⟩ = some u := fun b o u h hn => by
    rw [e2]; exact (World.cell?_setCell_other _ _ _ _ (fun e => hn (by injection e with e; exact e.symm))).trans h
  have BMB := Aside0.mk (by have := HKT.out.blk BM.out (by simp); exact this)
  have s0 := far _ _ _ y1 hne
  have s1 := far _ _ _ kz0 ng1
  have s2 := far _ _ _ kz1 ng1
  have s3 := far _ _ _ kz2 ng1
  have s4 := far _ _ _ kz3 ng1
  have s5 := far _ _ _ kz4 ng1
  have s6 := far _ _ _ vz0 ng2
  have s7 := far _ _ _ vz1 ng2
  have s8 := far _ _ _ vz2 ng2
  have s9 := far _ _ _ vz3 ng2
  have s10 := far _ _ _ vz4 ng2
  have s11 := far _ _ _ xz0 ng3
  have s12 := far _ _ _ xz1 ng3
  have NM := Aside0.mk (Kd.R_ne hR2 BMB.out (by decide))
  have HGW : Aside0 (∃ cells, W2.heap[g]? = some (Obj.cells cells 78 (0, 0))) := by
    obtain ⟨cells, hgc⟩ := HTB.out
    have hb := blk_set (blk_below hgc HW.out) (t.toNat * 2 + 1) (.int .i64 (tn + 1))
    rw [← e2] at hb
    exact ⟨_, hb⟩
  have NG : Aside0 (some g ≠ (Value.slice A0 ps.length c0).ownBlock) := by
    obtain ⟨cells, hgc⟩ := HTB.out
    have hb := blk_set (blk_below hgc HW.out) (t.toNat * 2 + 1) (.int .i64 (tn + 1))
    rw [← e2] at hb
    exact ⟨Kd.R_ne hR2 hb (by decide)⟩
  have NK := Aside0.mk (Kd.R_ne hR2 (blk_far e2 BK1.out ng1) (by decide))
  have NV := Aside0.mk (Kd.R_ne hR2 (blk_far e2 BV1.out ng2) (by decide))
  have NX := Aside0.mk (Kd.R_ne hR2 (blk_far e2 BX1.out ng3) (by decide))
  have HR2 := Aside0.mk hR2
  have HP2 := Aside0.mk hPUT2
  have LG : g < W2.heap.size := by have := HW.out.size; omega
  have HSW : Aside0 (w.heap.size ≤ W2.heap.size) := HKT.out |> fun h => ⟨h.1⟩
  have ne0 := hne.symm
  have ne1 := ng1.symm
  have ne2 := ng2.symm
  have ne3 := ng3.symm
  have QW : Aside0 (IntKind.i64.wrap (tn + 1) = tn + 1) := ⟨IntWalk.i64_in _ ⟨by omega, by omega⟩⟩
  rw [← e2]
  clear hR2 hPUT2 hy1 hs2 HL2 HL HTU HPUT HR HB BK BV BX HC kz0 kz1 kz2 kz3 kz4 vz0 vz1 vz2 vz3 vz4 xz0 xz1 gx1 gf1 y1 far e2 BK1 BV1 BX1 hx0 hx1 hf0 hf1 y0
  go_region_held3 (fun w' => w'.cell? ⟨gM, 0, none⟩ = some (.slice (some ⟨g, 0, none⟩) n cap) ∧ w'.cell? ⟨w.heap.size, 0, none⟩ = some (.int .i64 k0) ∧ w'.cell? ⟨w.heap.size, 1, none⟩ = some (.int .i64 k1) ∧ w'.cell? ⟨w.heap.size, 2, none⟩ = some (.float .f64 k2) ∧ w'.cell? ⟨w.heap.size, 3, none⟩ = some (.string k3) ∧ w'.cell? ⟨w.heap.size, 4, none⟩ = some (.int .i64 k4) ∧ w'.cell? ⟨w.heap.size + 1, 0, none⟩ = some (.int .i64 v0) ∧ w'.cell? ⟨w.heap.size + 1, 1, none⟩ = some (.int .i64 v1) ∧ w'.cell? ⟨w.heap.size + 1, 2, none⟩ = some (.float .f64 v2) ∧ w'.cell? ⟨w.heap.size + 1, 3, none⟩ = some (.string v3) ∧ w'.cell? ⟨w.heap.size + 1, 4, none⟩ = some (.int .i64 v4) ∧ w'.cell? ⟨w.heap.size + 1 + 1, 0, none⟩ = some (.slice A0 ps.length c0) ∧ w'.cell? ⟨w.heap.size + 1 + 1, 1, none⟩ = some (.int .i64 tn))
    (first | (go_keep; done) | (go_split_ands; refine ⟨(World.cell?_setCell_far _ _ _ _ ne0).trans (by assumption), (World.cell?_setCell_far _ _ _ _ ne1).trans (by assumption), (World.cell?_setCell_far _ _ _ _ ne1).trans (by assumption), (World.cell?_setCell_far _ _ _ _ ne1).trans (by assumption), (World.cell?_setCell_far _ _ _ _ ne1).trans (by assumption), (World.cell?_setCell_far _ _ _ _ ne1).trans (by assumption), (World.cell?_setCell_far _ _ _ _ ne2).trans (by assumption), (World.cell?_setCell_far _ _ _ _ ne2).trans (by assumption), (World.cell?_setCell_far _ _ _ _ ne2).trans (by assumption), (World.cell?_setCell_far _ _ _ _ ne2).trans (by assumption), (World.cell?_setCell_far _ _ _ _ ne2).trans (by assumption), (World.cell?_setCell_far _ _ _ _ ne3).trans (by assumption), (World.cell?_setCell_far _ _ _ _ ne3).trans (by assumption)⟩; done) | (go_split_ands; refine ⟨HG3.out.cell (by assumption) NM.out, HG3.out.cell (by assumption) NK.out, HG3.out.cell (by assumption) NK.out, HG3.out.cell (by assumption) NK.out, HG3.out.cell (by assumption) NK.out, HG3.out.cell (by assumption) NK.out, HG3.out.cell (by assumption) NV.out, HG3.out.cell (by assumption) NV.out, HG3.out.cell (by assumption) NV.out, HG3.out.cell (by assumption) NV.out, HG3.out.cell (by assumption) NV.out, HG3.out.cell (by assumption) NX.out, HG3.out.cell (by assumption) NX.out⟩))
    (((try rw [QW.out]); (rw [alloc_drew]); refine Kd.R_append_step k88 (w0 := w0) base (by rfl) (.tmp 92) (.tmp 99) 76 88 (.agg #[.int .i64 0, .int .i64 0, .float .f64 0, .string ⟨#[]⟩, .int .i64 0, .int .i64 0, .int .i64 0, .float .f64 0, .string ⟨#[]⟩, .int .i64 0, .int .i64 0]) 104 (by rfl) Tryd.underlying76 info88t (by rfl) (by decide) (by decide) (.slice A0 ps.length c0) ps ⟨⟨k0, k1, k2, k3, k4⟩, ⟨v0, v1, v2, v3, v4⟩, tn + 1⟩ [.int .i64 k0, .int .i64 k1, .float .f64 k2, .string k3, .int .i64 k4, .int .i64 v0, .int .i64 v1, .float .f64 v2, .string v3, .int .i64 v4, .int .i64 (tn + 1)] (fun k => ok2 k ∨ W2.heap.size ≤ k) (fun _ => False) (by first | rfl | simp [Act.eval, Act.put]) (by first | rfl | simp [Act.eval, Act.put]) (k88_mkM _ _ _ ⟨⟨k0, k1, k2, k3, k4⟩, ⟨v0, v1, v2, v3, v4⟩, tn + 1⟩) (fun _ hk => hk.elim) (fun _ hk => .inr hk) (Kd.R_mono (Kd.R_drew HR2.out) (fun _ hk => .inl hk)) (below_drew HB2.out) (Nat.le_trans HSZ.out HSW.out) (by have := H5.out; omega) ?_; intro lv w3 hr3 hb3 hg3 _; obtain ⟨lA, lc, le⟩ := Kd.R_slice hr3; subst le; have cz := hg3.cell (show W2.drew.cell? ⟨g, t.toNat * 2, none⟩ = _ from hy0) NG.out; have fz := (World.frozen?_of_block (a := ⟨g, t.toNat * 2, none⟩) (hg3.block g LG NG.out)).trans hyf; have HR3 := Aside0.mk hr3; have HB3 := Aside0.mk hb3; have HG3 := Aside0.mk hg3; clear hr3 hb3 hg3))
  go_wp2
  go_ret
  obtain ⟨cells, hgc⟩ := HGW.out
  have hg3 := grown_drew HG3.out
  exact ⟨rfl, HP2.out w3 hg3.size (fun k hk hn => hg3.block k hk (fun e => hn (HR2.out.1 k e.symm))) _ _ (by rw [List.length_append] at HR3; exact HR3.out), HB3.out.setCell HGB.out _,
    (HKT.out.trans (KT.grown hg3 (fun k hk => by obtain ⟨cs, hc⟩ := Kd.R_typed HR2.out k hk; exact ⟨cs, _, hc, by simp⟩))).trans (KT.set ((hg3.block g LG NG.out).trans hgc) (by simp) _)⟩
/-- What a write into a table answers, and the table behind it; i: where the key is. -/
def putA (T : S78) (i : Int) (k v : S29) : Int × S78 :=
  if 0 ≤ i then if v.f0 = 0 then (0, ⟨T.f0.eraseIdx i.toNat, T.f1⟩) else (0, ⟨T.f0.set i.toNat ⟨(rd_T88 T.f0 i).f0, v, (rd_T88 T.f0 i).f2⟩, T.f1⟩)
  else if v.f0 = 0 then (0, T) else if (T.f0.length : Int) = 500 ∨ T.f1 = 1000000000000 then (5, T) else (0, ⟨T.f0 ++ [⟨k, v, T.f1 + 1⟩], T.f1 + 1⟩)
theorem set_rd (ts : List S78) (t : Int) (h0 : 0 ≤ t) (h1 : t < ts.length) : ts.set t.toNat (rd_T78 ts t) = ts := by
  have : t.toNat < ts.length := by omega
  simp [rd_T78, List.getD_eq_getElem?_getD, this]
set_option maxHeartbeats 8000000 in
set_option maxRecDepth 100000 in
theorem put_calls (w0 w : World) (base gM : Nat) (sv : Value) (g n cap : Nat) (ts : List S78) (t : Int) (k v : S29) (hB : Below base w0 w) (hbase : base ≤ w.heap.size)
    (hM : w.heap[gM]? = some (.cells #[.slice (some ⟨g, 0, none⟩) n cap, sv] 58 (0, 0))) (hT : Kd.S k78 78 w base tt (.slice (some ⟨g, 0, none⟩) n cap) ts) (h0 : 0 ≤ t) (h1 : t < n) (h5 : (rd_T78 ts t).f0.length ≤ 500) (ht0 : 0 ≤ (rd_T78 ts t).f1) (ht1 : (rd_T78 ts t).f1 ≤ 1000000000000) :
    Calls Tryd.prog 39 #[.pointer (some ⟨gM, 0, none⟩), .int .i64 t, .agg (vc k).toArray, .agg (vc v).toArray] w fun e w' => e = .returned (.int .i64 (putA (rd_T78 ts t) (idxL k (rd_T78 ts t).f0) k v).1) ∧ Kd.S k78 78 w' base tt (.slice (some ⟨g, 0, none⟩) n cap) (ts.set t.toNat (putA (rd_T78 ts t) (idxL k (rd_T78 ts t).f0) k v).2) ∧ Below base w0 w' ∧ KT [78, 88] w w' := by
  have hn := (Kd.S_reads' hT).1
  have hs := set_rd ts t h0 (by omega)
  unfold putA
  rcases idxL_range k (rd_T78 ts t).f0 with hi | ⟨hi0, hi1⟩
  · rw [if_neg (by omega)]
    split
    · rename_i hv
      rw [hs]
      exact put_none w0 w base gM sv g n cap ts t k v hB hbase hM hT h0 h1 hi hv
    · rename_i hv
      split
      · rename_i hf
        rw [hs]
        exact put_full w0 w base gM sv g n cap ts t k v hB hbase hM hT h0 h1 hi hv hf
      · rename_i hf
        exact put_new w0 w base gM sv g n cap ts t k v hB hbase hM hT h0 h1 hi hv (by omega) ht0 (by omega)
  · rw [if_pos hi0]
    obtain ⟨m, hm⟩ : ∃ m : Nat, idxL k (rd_T78 ts t).f0 = (m : Int) := ⟨(idxL k (rd_T78 ts t).f0).toNat, by omega⟩
    rw [hm, Int.toNat_natCast]
    split
    · rename_i hv
      exact put_del w0 w base gM sv g n cap ts t k v hB hbase hM hT h0 h1 m hm (by omega) hv (by omega)
    · rename_i hv
      exact put_val w0 w base gM sv g n cap ts t k v hB hbase hM hT h0 h1 m hm (by omega) hv
end Go.Proofs.YtclploookcjcbaaDoor.PIde
namespace Go.Proofs.YtclploookcjcbaaDoor.PIde
open Go.RowKit Go.Proofs.YtclploookcjcbaaDoorW.PrintWords Go.Proofs.YtclploookcjcbaaDoorW.PrintLast Go.Proofs.YtclploookcjcbaaDoorW.PrintMore
attribute [local go_sem] max2_int min2_int max_two min_two max_three min_three max_four min_four   -- for this text's walks alone
set_option linter.unusedVariables false
set_option linter.unusedSimpArgs false
/-- The state of the reference's play: a block with the tables and the sites' keys, all of the play's own. -/
structure SSt (w0 w : World) (base gM : Nat) (tv sv : Value) (ts : List S78) (ss : List ByteArray) : Prop where
  B : Below base w0 w
  le : base ≤ w.heap.size
  M : w.heap[gM]? = some (.cells #[tv, sv] 58 (0, 0))
  gm : base ≤ gM
  T : Kd.S k78 78 w base tt tv ts
  S : Kd.R Kd.string 9 w base tt sv ss
theorem SSt.below {w0 w w1 : World} {base gM : Nat} {tv sv : Value} {ts : List S78} {ss : List ByteArray} (h : SSt w0 w base gM tv sv ts ss) (hb : Below w.heap.size w w1) : SSt w0 w1 base gM tv sv ts ss :=
  ⟨h.B.trans (hb.mono h.le), Nat.le_trans h.le hb.size, blk_below h.M hb, h.gm, Kd.S_below h.T hb, Kd.R_below h.S hb⟩
theorem grown_setCells (W : World) (g o : Nat) (vs : List Value) : W.grownBy (W.setCells g o vs) (some g) := by
  obtain ⟨s1, s2, s3, s4⟩ := setCells_same g vs o W
  exact ⟨s1, s2, s3, by omega, fun k _ hk => setCells_far vs o k (fun e => hk (by rw [e]))⟩
theorem KT.new {L : List Nat} {w w1 w2 : World} {g : Nat} (h : KT L w w1) (hg : w1.grownBy w2 (some g)) (hn : w.heap.size ≤ g) : KT L w w2 :=
  ⟨Nat.le_trans h.1 hg.size, fun k cs t hk ht => (hg.block k (Nat.lt_of_lt_of_le (blk_lt hk) h.1) (fun e => by have := blk_lt hk; injection e with e; omega)).trans (h.2 k cs t hk ht)⟩
theorem SSt.ans {w0 w w1 : World} {base gM g : Nat} {tv sv : Value} {ts : List S78} {ss : List ByteArray} {cs : Array Value} (h : SSt w0 w base gM tv sv ts ss) (hA : w.heap[g]? = some (.cells cs 60 (0, 0))) (hb : base ≤ g) (hg : w.grownBy w1 (some g)) : SSt w0 w1 base gM tv sv ts ss := by
  have hk : KT [60] w w1 := KT.grown hg (fun k e => by injection e with e; subst e; exact ⟨cs, _, hA, by simp⟩)
  exact ⟨h.B.grown hg h.le (fun k e => by injection e with e; omega), Nat.le_trans h.le hg.size, hk.blk h.M (by simp), h.gm, S_KT h.T hk (by decide), R_KT h.S hk (by decide)⟩
def stL : List Nat := [58, 78, 88, 9]
/-- A step's answer and the state behind it. -/
def DoneS (w0 w : World) (base gM : Nat) (r : S60 × List S78 × List ByteArray) (e : Ending) (w' : World) : Prop := ∃ tv sv, e = .returned (.agg (anc r.1).toArray) ∧ SSt w0 w' base gM tv sv r.2.1 r.2.2 ∧ KT stL w w'
theorem doneS {w0 w w3 : World} {base gM g : Nat} {tv sv : Value} {ts : List S78} {ss : List ByteArray} {cs : Array Value} (h : SSt w0 w3 base gM tv sv ts ss) (hk : KT stL w w3) (hA : w3.heap[g]? = some (.cells cs 60 (0, 0))) (hb : base ≤ g) (hn : w.heap.size ≤ g) (r : S60) :
    DoneS w0 w base gM (r, ts, ss) (.returned (.agg (anc r).toArray)) (w3.setCells g 0 (anc r)) :=
  ⟨tv, sv, rfl, h.ans hA hb (grown_setCells _ _ _ _), hk.new (grown_setCells _ _ _ _) hn⟩
def codeA (c : Int) : S60 := ⟨c, 0, z29, z29⟩
def numA (n : Int) : S60 := ⟨0, n, z29, z29⟩
set_option maxHeartbeats 8000000 in
set_option maxRecDepth 100000 in
theorem doS_bad1 (w0 w : World) (base gM : Nat) (tv sv : Value) (ts : List S78) (ss : List ByteArray) (x : S31) (hs : SSt w0 w base gM tv sv ts ss) (hok : aB x = false) :
    Calls Tryd.prog 25 #[.pointer (some ⟨gM, 0, none⟩), .agg (ac x).toArray] w (DoneS w0 w base gM (codeA 1, ts, ss)) := by
  have HS := Aside0.mk hs
  obtain ⟨x0, x1, x2, x3, ⟨k0, k1, k2, k3, k4⟩, ⟨v0, v1, v2, v3, v4⟩⟩ := x
  show Calls Tryd.prog 25 #[.pointer (some ⟨gM, 0, none⟩), .agg #[.int .i64 x0, .int .i64 x1, .int .i64 x2, .int .i64 x3, .int .i64 k0, .int .i64 k1, .float .f64 k2, .string k3, .int .i64 k4, .int .i64 v0, .int .i64 v1, .float .f64 v2, .string v3, .int .i64 v4]] w _
  have HB := Aside0.mk (below_alloc (below_alloc (Below.refl w.heap.size w) (.cells #[.int .i64 x0, .int .i64 x1, .int .i64 x2, .int .i64 x3, .int .i64 k0, .int .i64 k1, .float .f64 k2, .string k3, .int .i64 k4, .int .i64 v0, .int .i64 v1, .float .f64 v2, .string v3, .int .i64 v4] 31)) (.cells #[.int .i64 0, .int .i64 0, .int .i64 0, .int .i64 0, .float .f64 0, .string ⟨#[]⟩, .int .i64 0, .int .i64 0, .int .i64 0, .float .f64 0, .string ⟨#[]⟩, .int .i64 0] 60))
  have BX := Aside0.mk (heap_alloc2_old w (.cells #[.int .i64 x0, .int .i64 x1, .int .i64 x2, .int .i64 x3, .int .i64 k0, .int .i64 k1, .float .f64 k2, .string k3, .int .i64 k4, .int .i64 v0, .int .i64 v1, .float .f64 v2, .string v3, .int .i64 v4] 31) (.cells #[.int .i64 0, .int .i64 0, .int .i64 0, .int .i64 0, .float .f64 0, .string ⟨#[]⟩, .int .i64 0, .int .i64 0, .int .i64 0, .float .f64 0, .string ⟨#[]⟩, .int .i64 0] 60))
  have BA := Aside0.mk (heap_alloc2_new w (.cells #[.int .i64 x0, .int .i64 x1, .int .i64 x2, .int .i64 x3, .int .i64 k0, .int .i64 k1, .float .f64 k2, .string k3, .int .i64 k4, .int .i64 v0, .int .i64 v1, .float .f64 v2, .string v3, .int .i64 v4] 31) (.cells #[.int .i64 0, .int .i64 0, .int .i64 0, .int .i64 0, .float .f64 0, .string ⟨#[]⟩, .int .i64 0, .int .i64 0, .int .i64 0, .float .f64 0, .string ⟨#[]⟩, .int .i64 0] 60))
  have LE := hs.le
  have lt1 := blk_lt hs.M
  have HA : Aside0 (∀ w1, Calls Tryd.prog 6 #[.agg #[.int .i64 x0, .int .i64 x1, .int .i64 x2, .int .i64 x3, .int .i64 k0, .int .i64 k1, .float .f64 k2, .string k3, .int .i64 k4, .int .i64 v0, .int .i64 v1, .float .f64 v2, .string v3, .int .i64 v4]] w1 fun e w' => e = .returned (.bool false) ∧ Below w1.heap.size w1 w') := ⟨fun w1 => by have := specAct_calls ⟨x0, x1, x2, x3, ⟨k0, k1, k2, k3, k4⟩, ⟨v0, v1, v2, v3, v4⟩⟩ w1; rw [hok] at this; exact this⟩
  clear hok
  have hu := Tryd.underlying29
  have hu2 := Tryd.underlying31
  have hu3 := Tryd.underlying58
  have hu4 := Tryd.underlying37
  have hu5 := Tryd.underlying60
  have hu6 := Tryd.underlying74
  have hu7 := Tryd.underlying78
  have hu8 := Tryd.underlying88
  go_enter Tryd.func25, Tryd.ntmps25
  go_wp2_with (go_at_call 6; refine (HA.out _).mono ?_; rintro e w1 ⟨rfl, hb⟩; have HW := Aside0.mk (below_step HB.out hb); have BX1 := Aside0.mk (blk_below BX.out hb); have BA1 := Aside0.mk (blk_below BA.out hb); have HS1 := Aside0.mk (HS.out.below HW.out); clear HB BX BA HA hb HS; obtain ⟨xz0, xz1, xz2, xz3, xz4, xz5, xz6, xz7, xz8, xz9, xz10, xz11, xz12, xz13⟩ := c14 BX1.out; obtain ⟨⟨az0, az1, az2, az3, az4, az5, az6, az7, az8, az9, az10, az11⟩, af0, af1, af2, af3, af4, af5, af6, af7, af8, af9, af10, af11⟩ := c12 BA1.out; have mz0 := (blk_cell HS1.out.M 0).trans (show _ = some _ from rfl); have mz1 := (blk_cell HS1.out.M 1).trans (show _ = some _ from rfl); have lt2 := blk_lt BA1.out)
  exact bodyPost_ret (ret60 rfl rfl (set12 BA1.out)) rfl (doneS HS1.out (KT.below HW.out) BA1.out (by omega) (by omega) (codeA 1))
set_option maxHeartbeats 8000000 in
set_option maxRecDepth 100000 in
theorem doS_bad2 (w0 w : World) (base gM : Nat) (tv sv : Value) (ts : List S78) (ss : List ByteArray) (x : S31) (hs : SSt w0 w base gM tv sv ts ss) (hok : aB x = true) (hw : (!(x.f0 == 1) && !(x.f0 == 7)) = true) (hge : (ts.length : Int) ≤ x.f1) :
    Calls Tryd.prog 25 #[.pointer (some ⟨gM, 0, none⟩), .agg (ac x).toArray] w (DoneS w0 w base gM (codeA 2, ts, ss)) := by
  obtain ⟨tA, tc, rfl⟩ := Kd.S_slice hs.T
  obtain ⟨sA, sc, rfl⟩ := Kd.R_slice hs.S
  have HS := Aside0.mk hs
  obtain ⟨x0, x1, x2, x3, ⟨k0, k1, k2, k3, k4⟩, ⟨v0, v1, v2, v3, v4⟩⟩ := x
  simp only [] at hw hge
  have HWW := Aside0.mk hw
  clear hw
  show Calls Tryd.prog 25 #[.pointer (some ⟨gM, 0, none⟩), .agg #[.int .i64 x0, .int .i64 x1, .int .i64 x2, .int .i64 x3, .int .i64 k0, .int .i64 k1, .float .f64 k2, .string k3, .int .i64 k4, .int .i64 v0, .int .i64 v1, .float .f64 v2, .string v3, .int .i64 v4]] w _
  have HB := Aside0.mk (below_alloc (below_alloc (Below.refl w.heap.size w) (.cells #[.int .i64 x0, .int .i64 x1, .int .i64 x2, .int .i64 x3, .int .i64 k0, .int .i64 k1, .float .f64 k2, .string k3, .int .i64 k4, .int .i64 v0, .int .i64 v1, .float .f64 v2, .string v3, .int .i64 v4] 31)) (.cells #[.int .i64 0, .int .i64 0, .int .i64 0, .int .i64 0, .float .f64 0, .string ⟨#[]⟩, .int .i64 0, .int .i64 0, .int .i64 0, .float .f64 0, .string ⟨#[]⟩, .int .i64 0] 60))
  have BX := Aside0.mk (heap_alloc2_old w (.cells #[.int .i64 x0, .int .i64 x1, .int .i64 x2, .int .i64 x3, .int .i64 k0, .int .i64 k1, .float .f64 k2, .string k3, .int .i64 k4, .int .i64 v0, .int .i64 v1, .float .f64 v2, .string v3, .int .i64 v4] 31) (.cells #[.int .i64 0, .int .i64 0, .int .i64 0, .int .i64 0, .float .f64 0, .string ⟨#[]⟩, .int .i64 0, .int .i64 0, .int .i64 0, .float .f64 0, .string ⟨#[]⟩, .int .i64 0] 60))
  have BA := Aside0.mk (heap_alloc2_new w (.cells #[.int .i64 x0, .int .i64 x1, .int .i64 x2, .int .i64 x3, .int .i64 k0, .int .i64 k1, .float .f64 k2, .string k3, .int .i64 k4, .int .i64 v0, .int .i64 v1, .float .f64 v2, .string v3, .int .i64 v4] 31) (.cells #[.int .i64 0, .int .i64 0, .int .i64 0, .int .i64 0, .float .f64 0, .string ⟨#[]⟩, .int .i64 0, .int .i64 0, .int .i64 0, .float .f64 0, .string ⟨#[]⟩, .int .i64 0] 60))
  have LE := hs.le
  have lt1 := blk_lt hs.M
  have HA : Aside0 (∀ w1, Calls Tryd.prog 6 #[.agg #[.int .i64 x0, .int .i64 x1, .int .i64 x2, .int .i64 x3, .int .i64 k0, .int .i64 k1, .float .f64 k2, .string k3, .int .i64 k4, .int .i64 v0, .int .i64 v1, .float .f64 v2, .string v3, .int .i64 v4]] w1 fun e w' => e = .returned (.bool true) ∧ Below w1.heap.size w1 w') := ⟨fun w1 => by have := specAct_calls ⟨x0, x1, x2, x3, ⟨k0, k1, k2, k3, k4⟩, ⟨v0, v1, v2, v3, v4⟩⟩ w1; rw [hok] at this; exact this⟩
  clear hok
  have hu := Tryd.underlying29
  have hu2 := Tryd.underlying31
  have hu3 := Tryd.underlying58
  have hu4 := Tryd.underlying37
  have hu5 := Tryd.underlying60
  have hu6 := Tryd.underlying74
  have hu7 := Tryd.underlying78
  have hu8 := Tryd.underlying88
  go_enter Tryd.func25, Tryd.ntmps25
  go_wp2_with (first | (go_at_call 6; refine (HA.out _).mono ?_; rintro e w1 ⟨rfl, hb⟩; have HW := Aside0.mk (below_step HB.out hb); have BX1 := Aside0.mk (blk_below BX.out hb); have BA1 := Aside0.mk (blk_below BA.out hb); have HS1 := Aside0.mk (HS.out.below HW.out); clear HB BX BA HA hb HS; obtain ⟨xz0, xz1, xz2, xz3, xz4, xz5, xz6, xz7, xz8, xz9, xz10, xz11, xz12, xz13⟩ := c14 BX1.out; obtain ⟨⟨az0, az1, az2, az3, az4, az5, az6, az7, az8, az9, az10, az11⟩, af0, af1, af2, af3, af4, af5, af6, af7, af8, af9, af10, af11⟩ := c12 BA1.out; have mz0 := (blk_cell HS1.out.M 0).trans (show _ = some _ from rfl); have mz1 := (blk_cell HS1.out.M 1).trans (show _ = some _ from rfl); have lt2 := blk_lt BA1.out) | (go_at_call 37; refine (wants_calls _ _).mono ?_; rintro e w2 ⟨rfl, rfl⟩; rw [HWW.out]))
  go_quiet (fail)
  go_wp2
  exact bodyPost_ret (ret60 rfl rfl (set12 (blk_drewN BA1.out _))) rfl (doneS (HS1.out.below (pw_below_drewN (Below.refl _ _) _)) (KT.below (pw_below_drewN HW.out _)) (blk_drewN BA1.out _) (by omega) (by omega) (codeA 2))
end Go.Proofs.YtclploookcjcbaaDoor.PIde
namespace Go.Proofs.YtclploookcjcbaaDoor.PIde
open Go.RowKit Go.Proofs.YtclploookcjcbaaDoorW.PrintWords Go.Proofs.YtclploookcjcbaaDoorW.PrintLast Go.Proofs.YtclploookcjcbaaDoorW.PrintMore
attribute [local go_sem] max2_int min2_int max_two min_two max_three min_three max_four min_four   -- for this text's walks alone
set_option linter.unusedVariables false
set_option linter.unusedSimpArgs false
set_option maxHeartbeats 8000000 in
set_option maxRecDepth 100000 in
theorem doS_bad3 (w0 w : World) (base gM : Nat) (tv sv : Value) (ts : List S78) (ss : List ByteArray) (x : S31) (hs : SSt w0 w base gM tv sv ts ss) (hok : aB x = true) (hw : (x.f0 == 8 || x.f0 == 9) = true) (hlt : x.f1 < (ts.length : Int)) (hge : (ss.length : Int) ≤ x.f2) :
    Calls Tryd.prog 25 #[.pointer (some ⟨gM, 0, none⟩), .agg (ac x).toArray] w (DoneS w0 w base gM (codeA 3, ts, ss)) := by
  obtain ⟨tA, tc, rfl⟩ := Kd.S_slice hs.T
  obtain ⟨sA, sc, rfl⟩ := Kd.R_slice hs.S
  have HS := Aside0.mk hs
  obtain ⟨x0, x1, x2, x3, ⟨k0, k1, k2, k3, k4⟩, ⟨v0, v1, v2, v3, v4⟩⟩ := x
  simp only [] at hw hge hlt
  have hd := decide_eq_false (show ¬ (ts.length : Int) ≤ x1 by omega)
  have HWW := Aside0.mk hw
  have HVV : Aside0 ((!(x0 == 1) && !(x0 == 7)) = true) := ⟨by simp only [Bool.or_eq_true, beq_iff_eq] at hw; rcases hw with h | h <;> subst h <;> rfl⟩
  clear hw
  show Calls Tryd.prog 25 #[.pointer (some ⟨gM, 0, none⟩), .agg #[.int .i64 x0, .int .i64 x1, .int .i64 x2, .int .i64 x3, .int .i64 k0, .int .i64 k1, .float .f64 k2, .string k3, .int .i64 k4, .int .i64 v0, .int .i64 v1, .float .f64 v2, .string v3, .int .i64 v4]] w _
  have HB := Aside0.mk (below_alloc (below_alloc (Below.refl w.heap.size w) (.cells #[.int .i64 x0, .int .i64 x1, .int .i64 x2, .int .i64 x3, .int .i64 k0, .int .i64 k1, .float .f64 k2, .string k3, .int .i64 k4, .int .i64 v0, .int .i64 v1, .float .f64 v2, .string v3, .int .i64 v4] 31)) (.cells #[.int .i64 0, .int .i64 0, .int .i64 0, .int .i64 0, .float .f64 0, .string ⟨#[]⟩, .int .i64 0, .int .i64 0, .int .i64 0, .float .f64 0, .string ⟨#[]⟩, .int .i64 0] 60))
  have BX := Aside0.mk (heap_alloc2_old w (.cells #[.int .i64 x0, .int .i64 x1, .int .i64 x2, .int .i64 x3, .int .i64 k0, .int .i64 k1, .float .f64 k2, .string k3, .int .i64 k4, .int .i64 v0, .int .i64 v1, .float .f64 v2, .string v3, .int .i64 v4] 31) (.cells #[.int .i64 0, .int .i64 0, .int .i64 0, .int .i64 0, .float .f64 0, .string ⟨#[]⟩, .int .i64 0, .int .i64 0, .int .i64 0, .float .f64 0, .string ⟨#[]⟩, .int .i64 0] 60))
  have BA := Aside0.mk (heap_alloc2_new w (.cells #[.int .i64 x0, .int .i64 x1, .int .i64 x2, .int .i64 x3, .int .i64 k0, .int .i64 k1, .float .f64 k2, .string k3, .int .i64 k4, .int .i64 v0, .int .i64 v1, .float .f64 v2, .string v3, .int .i64 v4] 31) (.cells #[.int .i64 0, .int .i64 0, .int .i64 0, .int .i64 0, .float .f64 0, .string ⟨#[]⟩, .int .i64 0, .int .i64 0, .int .i64 0, .float .f64 0, .string ⟨#[]⟩, .int .i64 0] 60))
  have LE := hs.le
  have lt1 := blk_lt hs.M
  have HA : Aside0 (∀ w1, Calls Tryd.prog 6 #[.agg #[.int .i64 x0, .int .i64 x1, .int .i64 x2, .int .i64 x3, .int .i64 k0, .int .i64 k1, .float .f64 k2, .string k3, .int .i64 k4, .int .i64 v0, .int .i64 v1, .float .f64 v2, .string v3, .int .i64 v4]] w1 fun e w' => e = .returned (.bool true) ∧ Below w1.heap.size w1 w') := ⟨fun w1 => by have := specAct_calls ⟨x0, x1, x2, x3, ⟨k0, k1, k2, k3, k4⟩, ⟨v0, v1, v2, v3, v4⟩⟩ w1; rw [hok] at this; exact this⟩
  clear hok
  have hu := Tryd.underlying29
  have hu2 := Tryd.underlying31
  have hu3 := Tryd.underlying58
  have hu4 := Tryd.underlying37
  have hu5 := Tryd.underlying60
  have hu6 := Tryd.underlying74
  have hu7 := Tryd.underlying78
  have hu8 := Tryd.underlying88
  go_enter Tryd.func25, Tryd.ntmps25
  go_wp2_with (first | (go_at_call 6; refine (HA.out _).mono ?_; rintro e w1 ⟨rfl, hb⟩; have HW := Aside0.mk (below_step HB.out hb); have BX1 := Aside0.mk (blk_below BX.out hb); have BA1 := Aside0.mk (blk_below BA.out hb); have HS1 := Aside0.mk (HS.out.below HW.out); clear HB BX BA HA hb HS; obtain ⟨xz0, xz1, xz2, xz3, xz4, xz5, xz6, xz7, xz8, xz9, xz10, xz11, xz12, xz13⟩ := c14 BX1.out; obtain ⟨⟨az0, az1, az2, az3, az4, az5, az6, az7, az8, az9, az10, az11⟩, af0, af1, af2, af3, af4, af5, af6, af7, af8, af9, af10, af11⟩ := c12 BA1.out; have mz0 := (blk_cell HS1.out.M 0).trans (show _ = some _ from rfl); have mz1 := (blk_cell HS1.out.M 1).trans (show _ = some _ from rfl); have lt2 := blk_lt BA1.out) | (go_at_call 37; refine (wants_calls _ _).mono ?_; rintro e w2 ⟨rfl, rfl⟩; rw [HVV.out, HWW.out]))
  go_quiet (fail)
  go_wp2
  go_quiet (fail)
  go_wp2
  exact bodyPost_ret (ret60 rfl rfl (set12 (blk_drewN BA1.out _))) rfl (doneS (HS1.out.below (pw_below_drewN (Below.refl _ _) _)) (KT.below (pw_below_drewN HW.out _)) (blk_drewN BA1.out _) (by omega) (by omega) (codeA 3))
set_option maxHeartbeats 8000000 in
set_option maxRecDepth 100000 in
theorem doS_bad4_2 (w0 w : World) (base gM : Nat) (tv sv : Value) (ts : List S78) (ss : List ByteArray) (x : S31) (hs : SSt w0 w base gM tv sv ts ss) (hn : x.f0 = 2) (hok : aB x = true) (hlt : x.f1 < (ts.length : Int)) (hkc : ¬ keyC x.f4 = 0) :
    Calls Tryd.prog 25 #[.pointer (some ⟨gM, 0, none⟩), .agg (ac x).toArray] w (DoneS w0 w base gM (codeA 4, ts, ss)) := by
  obtain ⟨tA, tc, rfl⟩ := Kd.S_slice hs.T
  obtain ⟨sA, sc, rfl⟩ := Kd.R_slice hs.S
  have HS := Aside0.mk hs
  obtain ⟨x0, x1, x2, x3, ⟨k0, k1, k2, k3, k4⟩, ⟨v0, v1, v2, v3, v4⟩⟩ := x
  obtain rfl : x0 = 2 := hn
  simp only [] at hlt hkc
  have hd := decide_eq_false (show ¬ (ts.length : Int) ≤ x1 by omega)
  have HK : Aside0 (∀ w1, Calls Tryd.prog 38 #[.agg #[.int .i64 k0, .int .i64 k1, .float .f64 k2, .string k3, .int .i64 k4]] w1 fun e w' => e = .returned (.agg #[.int .i64 (keyC ⟨k0, k1, k2, k3, k4⟩), .int .i64 (keyV ⟨k0, k1, k2, k3, k4⟩).f0, .int .i64 (keyV ⟨k0, k1, k2, k3, k4⟩).f1, .float .f64 (keyV ⟨k0, k1, k2, k3, k4⟩).f2, .string (keyV ⟨k0, k1, k2, k3, k4⟩).f3, .int .i64 (keyV ⟨k0, k1, k2, k3, k4⟩).f4]) ∧ Below w1.heap.size w1 w') := ⟨fun w1 => specKey_calls ⟨k0, k1, k2, k3, k4⟩ w1⟩
  generalize keyC ⟨k0, k1, k2, k3, k4⟩ = kC at *
  generalize keyV ⟨k0, k1, k2, k3, k4⟩ = kV at *
  have hkc2 : (kC == 0) = false := beq_eq_false_iff_ne.mpr hkc
  have hkc3 := bne_f hkc2
  clear hkc
  show Calls Tryd.prog 25 #[.pointer (some ⟨gM, 0, none⟩), .agg #[.int .i64 2, .int .i64 x1, .int .i64 x2, .int .i64 x3, .int .i64 k0, .int .i64 k1, .float .f64 k2, .string k3, .int .i64 k4, .int .i64 v0, .int .i64 v1, .float .f64 v2, .string v3, .int .i64 v4]] w _
  have HB := Aside0.mk (below_alloc (below_alloc (Below.refl w.heap.size w) (.cells #[.int .i64 2, .int .i64 x1, .int .i64 x2, .int .i64 x3, .int .i64 k0, .int .i64 k1, .float .f64 k2, .string k3, .int .i64 k4, .int .i64 v0, .int .i64 v1, .float .f64 v2, .string v3, .int .i64 v4] 31)) (.cells #[.int .i64 0, .int .i64 0, .int .i64 0, .int .i64 0, .float .f64 0, .string ⟨#[]⟩, .int .i64 0, .int .i64 0, .int .i64 0, .float .f64 0, .string ⟨#[]⟩, .int .i64 0] 60))
  have BX := Aside0.mk (heap_alloc2_old w (.cells #[.int .i64 2, .int .i64 x1, .int .i64 x2, .int .i64 x3, .int .i64 k0, .int .i64 k1, .float .f64 k2, .string k3, .int .i64 k4, .int .i64 v0, .int .i64 v1, .float .f64 v2, .string v3, .int .i64 v4] 31) (.cells #[.int .i64 0, .int .i64 0, .int .i64 0, .int .i64 0, .float .f64 0, .string ⟨#[]⟩, .int .i64 0, .int .i64 0, .int .i64 0, .float .f64 0, .string ⟨#[]⟩, .int .i64 0] 60))
  have BA := Aside0.mk (heap_alloc2_new w (.cells #[.int .i64 2, .int .i64 x1, .int .i64 x2, .int .i64 x3, .int .i64 k0, .int .i64 k1, .float .f64 k2, .string k3, .int .i64 k4, .int .i64 v0, .int .i64 v1, .float .f64 v2, .string v3, .int .i64 v4] 31) (.cells #[.int .i64 0, .int .i64 0, .int .i64 0, .int .i64 0, .float .f64 0, .string ⟨#[]⟩, .int .i64 0, .int .i64 0, .int .i64 0, .float .f64 0, .string ⟨#[]⟩, .int .i64 0] 60))
  have LE := hs.le
  have lt1 := blk_lt hs.M
  have HA : Aside0 (∀ w1, Calls Tryd.prog 6 #[.agg #[.int .i64 2, .int .i64 x1, .int .i64 x2, .int .i64 x3, .int .i64 k0, .int .i64 k1, .float .f64 k2, .string k3, .int .i64 k4, .int .i64 v0, .int .i64 v1, .float .f64 v2, .string v3, .int .i64 v4]] w1 fun e w' => e = .returned (.bool true) ∧ Below w1.heap.size w1 w') := ⟨fun w1 => by have := specAct_calls ⟨2, x1, x2, x3, ⟨k0, k1, k2, k3, k4⟩, ⟨v0, v1, v2, v3, v4⟩⟩ w1; rw [hok] at this; exact this⟩
  clear hok
  have hu := Tryd.underlying29
  have hu2 := Tryd.underlying31
  have hu3 := Tryd.underlying58
  have hu4 := Tryd.underlying37
  have hu5 := Tryd.underlying60
  have hu6 := Tryd.underlying74
  have hu7 := Tryd.underlying78
  have hu8 := Tryd.underlying88
  go_enter Tryd.func25, Tryd.ntmps25
  go_wp2_with (first | (go_at_call 6; refine (HA.out _).mono ?_; rintro e w1 ⟨rfl, hb⟩; have HW := Aside0.mk (below_step HB.out hb); have BX1 := Aside0.mk (blk_below BX.out hb); have BA1 := Aside0.mk (blk_below BA.out hb); have HS1 := Aside0.mk (HS.out.below HW.out); clear HB BX BA HA hb HS; obtain ⟨xz0, xz1, xz2, xz3, xz4, xz5, xz6, xz7, xz8, xz9, xz10, xz11, xz12, xz13⟩ := c14 BX1.out; obtain ⟨⟨az0, az1, az2, az3, az4, az5, az6, az7, az8, az9, az10, az11⟩, af0, af1, af2, af3, af4, af5, af6, af7, af8, af9, af10, af11⟩ := c12 BA1.out; have mz0 := (blk_cell HS1.out.M 0).trans (show _ = some _ from rfl); have mz1 := (blk_cell HS1.out.M 1).trans (show _ = some _ from rfl); have lt2 := blk_lt BA1.out) | (go_at_call 37; refine (wants_calls _ _).mono ?_; rintro e w2 ⟨rfl, rfl⟩))
  go_quiet (fail)
  go_wp2
  go_quiet (fail)
  go_wp2_with (first | (go_at_call 38; refine (HK.out _).mono ?_; rintro e w3 ⟨rfl, hb⟩; replace hb : Below w2.heap.size w2 w3 := ⟨hb.os, hb.tape, hb.output, hb.size, hb.block⟩; have HW2 := Aside0.mk (below_step HW.out hb); have BX2 := Aside0.mk (blk_below BX1.out hb); have BA2 := Aside0.mk (blk_below BA1.out hb); have HS2 := Aside0.mk (HS1.out.below hb); clear HK hb HW HS1 BX1 BA1 xz0 xz1 xz2 xz3 xz4 xz5 xz6 xz7 xz8 xz9 xz10 xz11 xz12 xz13 az0 az1 az2 az3 az4 az5 az6 az7 az8 az9 az10 az11 af0 af1 af2 af3 af4 af5 af6 af7 af8 af9 af10 af11 mz0 mz1; obtain ⟨xz0, xz1, xz2, xz3, xz4, xz5, xz6, xz7, xz8, xz9, xz10, xz11, xz12, xz13⟩ := c14 BX2.out; obtain ⟨⟨az0, az1, az2, az3, az4, az5, az6, az7, az8, az9, az10, az11⟩, af0, af1, af2, af3, af4, af5, af6, af7, af8, af9, af10, af11⟩ := c12 BA2.out; have mz0 := (blk_cell HS2.out.M 0).trans (show _ = some _ from rfl); have mz1 := (blk_cell HS2.out.M 1).trans (show _ = some _ from rfl); have lt2 := blk_lt BA2.out; have lt3 := blk_lt HS2.out.M; have lt4 := blk_lt BX2.out))
  exact bodyPost_ret (ret60 rfl rfl (blk_alloc (set12 BA2.out) _)) rfl (by
    obtain ⟨tv, sv, h1, h2, h3⟩ := doneS HS2.out (KT.below HW2.out) BA2.out (by omega) (by omega) (codeA 4)
    exact ⟨tv, sv, h1, h2.below (below_alloc (Below.refl _ _) _), h3.trans (KT.below (below_alloc (Below.refl _ _) _))⟩)
set_option maxHeartbeats 8000000 in
set_option maxRecDepth 100000 in
theorem doS_bad4_3 (w0 w : World) (base gM : Nat) (tv sv : Value) (ts : List S78) (ss : List ByteArray) (x : S31) (hs : SSt w0 w base gM tv sv ts ss) (hn : x.f0 = 3) (hok : aB x = true) (hlt : x.f1 < (ts.length : Int)) (hkc : ¬ keyC x.f4 = 0) :
    Calls Tryd.prog 25 #[.pointer (some ⟨gM, 0, none⟩), .agg (ac x).toArray] w (DoneS w0 w base gM (codeA 4, ts, ss)) := by
  obtain ⟨tA, tc, rfl⟩ := Kd.S_slice hs.T
  obtain ⟨sA, sc, rfl⟩ := Kd.R_slice hs.S
  have HS := Aside0.mk hs
  obtain ⟨x0, x1, x2, x3, ⟨k0, k1, k2, k3, k4⟩, ⟨v0, v1, v2, v3, v4⟩⟩ := x
  obtain rfl : x0 = 3 := hn
  simp only [] at hlt hkc
  have hd := decide_eq_false (show ¬ (ts.length : Int) ≤ x1 by omega)
  have HK : Aside0 (∀ w1, Calls Tryd.prog 38 #[.agg #[.int .i64 k0, .int .i64 k1, .float .f64 k2, .string k3, .int .i64 k4]] w1 fun e w' => e = .returned (.agg #[.int .i64 (keyC ⟨k0, k1, k2, k3, k4⟩), .int .i64 (keyV ⟨k0, k1, k2, k3, k4⟩).f0, .int .i64 (keyV ⟨k0, k1, k2, k3, k4⟩).f1, .float .f64 (keyV ⟨k0, k1, k2, k3, k4⟩).f2, .string (keyV ⟨k0, k1, k2, k3, k4⟩).f3, .int .i64 (keyV ⟨k0, k1, k2, k3, k4⟩).f4]) ∧ Below w1.heap.size w1 w') := ⟨fun w1 => specKey_calls ⟨k0, k1, k2, k3, k4⟩ w1⟩
  generalize keyC ⟨k0, k1, k2, k3, k4⟩ = kC at *
  generalize keyV ⟨k0, k1, k2, k3, k4⟩ = kV at *
  have hkc2 : (kC == 0) = false := beq_eq_false_iff_ne.mpr hkc
  have hkc3 := bne_f hkc2
  clear hkc
  show Calls Tryd.prog 25 #[.pointer (some ⟨gM, 0, none⟩), .agg #[.int .i64 3, .int .i64 x1, .int .i64 x2, .int .i64 x3, .int .i64 k0, .int .i64 k1, .float .f64 k2, .string k3, .int .i64 k4, .int .i64 v0, .int .i64 v1, .float .f64 v2, .string v3, .int .i64 v4]] w _
  have HB := Aside0.mk (below_alloc (below_alloc (Below.refl w.heap.size w) (.cells #[.int .i64 3, .int .i64 x1, .int .i64 x2, .int .i64 x3, .int .i64 k0, .int .i64 k1, .float .f64 k2, .string k3, .int .i64 k4, .int .i64 v0, .int .i64 v1, .float .f64 v2, .string v3, .int .i64 v4] 31)) (.cells #[.int .i64 0, .int .i64 0, .int .i64 0, .int .i64 0, .float .f64 0, .string ⟨#[]⟩, .int .i64 0, .int .i64 0, .int .i64 0, .float .f64 0, .string ⟨#[]⟩, .int .i64 0] 60))
  have BX := Aside0.mk (heap_alloc2_old w (.cells #[.int .i64 3, .int .i64 x1, .int .i64 x2, .int .i64 x3, .int .i64 k0, .int .i64 k1, .float .f64 k2, .string k3, .int .i64 k4, .int .i64 v0, .int .i64 v1, .float .f64 v2, .string v3, .int .i64 v4] 31) (.cells #[.int .i64 0, .int .i64 0, .int .i64 0, .int .i64 0, .float .f64 0, .string ⟨#[]⟩, .int .i64 0, .int .i64 0, .int .i64 0, .float .f64 0, .string ⟨#[]⟩, .int .i64 0] 60))
  have BA := Aside0.mk (heap_alloc2_new w (.cells #[.int .i64 3, .int .i64 x1, .int .i64 x2, .int .i64 x3, .int .i64 k0, .int .i64 k1, .float .f64 k2, .string k3, .int .i64 k4, .int .i64 v0, .int .i64 v1, .float .f64 v2, .string v3, .int .i64 v4] 31) (.cells #[.int .i64 0, .int .i64 0, .int .i64 0, .int .i64 0, .float .f64 0, .string ⟨#[]⟩, .int .i64 0, .int .i64 0, .int .i64 0, .float .f64 0, .string ⟨#[]⟩, .int .i64 0] 60))
  have LE := hs.le
  have lt1 := blk_lt hs.M
  have HA : Aside0 (∀ w1, Calls Tryd.prog 6 #[.agg #[.int .i64 3, .int .i64 x1, .int .i64 x2, .int .i64 x3, .int .i64 k0, .int .i64 k1, .float .f64 k2, .string k3, .int .i64 k4, .int .i64 v0, .int .i64 v1, .float .f64 v2, .string v3, .int .i64 v4]] w1 fun e w' => e = .returned (.bool true) ∧ Below w1.heap.size w1 w') := ⟨fun w1 => by have := specAct_calls ⟨3, x1, x2, x3, ⟨k0, k1, k2, k3, k4⟩, ⟨v0, v1, v2, v3, v4⟩⟩ w1; rw [hok] at this; exact this⟩
  clear hok
  have hu := Tryd.underlying29
  have hu2 := Tryd.underlying31
  have hu3 := Tryd.underlying58
  have hu4 := Tryd.underlying37
  have hu5 := Tryd.underlying60
  have hu6 := Tryd.underlying74
  have hu7 := Tryd.underlying78
  have hu8 := Tryd.underlying88
  go_enter Tryd.func25, Tryd.ntmps25
  go_wp2_with (first | (go_at_call 6; refine (HA.out _).mono ?_; rintro e w1 ⟨rfl, hb⟩; have HW := Aside0.mk (below_step HB.out hb); have BX1 := Aside0.mk (blk_below BX.out hb); have BA1 := Aside0.mk (blk_below BA.out hb); have HS1 := Aside0.mk (HS.out.below HW.out); clear HB BX BA HA hb HS; obtain ⟨xz0, xz1, xz2, xz3, xz4, xz5, xz6, xz7, xz8, xz9, xz10, xz11, xz12, xz13⟩ := c14 BX1.out; obtain ⟨⟨az0, az1, az2, az3, az4, az5, az6, az7, az8, az9, az10, az11⟩, af0, af1, af2, af3, af4, af5, af6, af7, af8, af9, af10, af11⟩ := c12 BA1.out; have mz0 := (blk_cell HS1.out.M 0).trans (show _ = some _ from rfl); have mz1 := (blk_cell HS1.out.M 1).trans (show _ = some _ from rfl); have lt2 := blk_lt BA1.out) | (go_at_call 37; refine (wants_calls _ _).mono ?_; rintro e w2 ⟨rfl, rfl⟩))
  go_quiet (fail)
  go_wp2
  go_quiet (fail)
  go_wp2_with (first | (go_at_call 38; refine (HK.out _).mono ?_; rintro e w3 ⟨rfl, hb⟩; replace hb : Below w2.heap.size w2 w3 := ⟨hb.os, hb.tape, hb.output, hb.size, hb.block⟩; have HW2 := Aside0.mk (below_step HW.out hb); have BX2 := Aside0.mk (blk_below BX1.out hb); have BA2 := Aside0.mk (blk_below BA1.out hb); have HS2 := Aside0.mk (HS1.out.below hb); clear HK hb HW HS1 BX1 BA1 xz0 xz1 xz2 xz3 xz4 xz5 xz6 xz7 xz8 xz9 xz10 xz11 xz12 xz13 az0 az1 az2 az3 az4 az5 az6 az7 az8 az9 az10 az11 af0 af1 af2 af3 af4 af5 af6 af7 af8 af9 af10 af11 mz0 mz1; obtain ⟨xz0, xz1, xz2, xz3, xz4, xz5, xz6, xz7, xz8, xz9, xz10, xz11, xz12, xz13⟩ := c14 BX2.out; obtain ⟨⟨az0, az1, az2, az3, az4, az5, az6, az7, az8, az9, az10, az11⟩, af0, af1, af2, af3, af4, af5, af6, af7, af8, af9, af10, af11⟩ := c12 BA2.out; have mz0 := (blk_cell HS2.out.M 0).trans (show _ = some _ from rfl); have mz1 := (blk_cell HS2.out.M 1).trans (show _ = some _ from rfl); have lt2 := blk_lt BA2.out; have lt3 := blk_lt HS2.out.M; have lt4 := blk_lt BX2.out))
  exact bodyPost_ret (ret60 rfl rfl (blk_alloc (set12 BA2.out) _)) rfl (by
    obtain ⟨tv, sv, h1, h2, h3⟩ := doneS HS2.out (KT.below HW2.out) BA2.out (by omega) (by omega) (codeA 4)
    exact ⟨tv, sv, h1, h2.below (below_alloc (Below.refl _ _) _), h3.trans (KT.below (below_alloc (Below.refl _ _) _))⟩)
end Go.Proofs.YtclploookcjcbaaDoor.PIde
namespace Go.Proofs.YtclploookcjcbaaDoor.PIde
open Go.RowKit Go.Proofs.YtclploookcjcbaaDoorW.PrintWords Go.Proofs.YtclploookcjcbaaDoorW.PrintLast Go.Proofs.YtclploookcjcbaaDoorW.PrintMore
attribute [local go_sem] max2_int min2_int max_two min_two max_three min_three max_four min_four   -- for this text's walks alone
set_option linter.unusedVariables false
set_option linter.unusedSimpArgs false
set_option maxHeartbeats 8000000 in
set_option maxRecDepth 100000 in
theorem doS_get (w0 w : World) (base gM : Nat) (tv sv : Value) (ts : List S78) (ss : List ByteArray) (x : S31) (hs : SSt w0 w base gM tv sv ts ss) (hn : x.f0 = 3) (hok : aB x = true) (h0 : 0 ≤ x.f1) (hlt : x.f1 < (ts.length : Int)) (hkc : keyC x.f4 = 0) :
    Calls Tryd.prog 25 #[.pointer (some ⟨gM, 0, none⟩), .agg (ac x).toArray] w (DoneS w0 w base gM (⟨0, 0, z29, getV (rd_T78 ts x.f1).f0 (idxL (keyV x.f4) (rd_T78 ts x.f1).f0)⟩, ts, ss)) := by
  obtain ⟨tA, tc, rfl⟩ := Kd.S_slice hs.T
  obtain ⟨sA, sc, rfl⟩ := Kd.R_slice hs.S
  have HS := Aside0.mk hs
  obtain ⟨x0, x1, x2, x3, ⟨k0, k1, k2, k3, k4⟩, ⟨v0, v1, v2, v3, v4⟩⟩ := x
  obtain rfl : x0 = 3 := hn
  simp only [] at h0 hlt
  have hd := decide_eq_false (show ¬ (ts.length : Int) ≤ x1 by omega)
  have HK : Aside0 (∀ w1, Calls Tryd.prog 38 #[.agg #[.int .i64 k0, .int .i64 k1, .float .f64 k2, .string k3, .int .i64 k4]] w1 fun e w' => e = .returned (.agg #[.int .i64 (keyC ⟨k0, k1, k2, k3, k4⟩), .int .i64 (keyV ⟨k0, k1, k2, k3, k4⟩).f0, .int .i64 (keyV ⟨k0, k1, k2, k3, k4⟩).f1, .float .f64 (keyV ⟨k0, k1, k2, k3, k4⟩).f2, .string (keyV ⟨k0, k1, k2, k3, k4⟩).f3, .int .i64 (keyV ⟨k0, k1, k2, k3, k4⟩).f4]) ∧ Below w1.heap.size w1 w') := ⟨fun w1 => specKey_calls ⟨k0, k1, k2, k3, k4⟩ w1⟩
  have hkc2 : (keyC ⟨k0, k1, k2, k3, k4⟩ == 0) = true := by simp only [] at hkc; rw [hkc]; rfl
  have hkc3 := bne_t hkc2
  have hkc4 := Aside0.mk hkc
  clear hkc
  have HG : Aside0 (∀ w1 sv, w1.heap[gM]? = some (.cells #[.slice tA ts.length tc, sv] 58 (0, 0)) → Kd.C k78 w1 tA ts.length ts → Calls Tryd.prog 40 #[.pointer (some ⟨gM, 0, none⟩), .int .i64 x1, .agg #[.int .i64 (keyV ⟨k0, k1, k2, k3, k4⟩).f0, .int .i64 (keyV ⟨k0, k1, k2, k3, k4⟩).f1, .float .f64 (keyV ⟨k0, k1, k2, k3, k4⟩).f2, .string (keyV ⟨k0, k1, k2, k3, k4⟩).f3, .int .i64 (keyV ⟨k0, k1, k2, k3, k4⟩).f4]] w1 fun e w' =>
      e = .returned (.agg (vc (getV (rd_T78 ts x1).f0 (idxL (keyV ⟨k0, k1, k2, k3, k4⟩) (rd_T78 ts x1).f0))).toArray) ∧ Below w1.heap.size w1 w') := ⟨fun w1 sv hM hC => get_calls ts x1 (keyV ⟨k0, k1, k2, k3, k4⟩) tA tc sv gM w1 hM hC h0 hlt⟩
  simp only []
  generalize getV (rd_T78 ts x1).f0 (idxL (keyV ⟨k0, k1, k2, k3, k4⟩) (rd_T78 ts x1).f0) = V at *
  generalize keyC ⟨k0, k1, k2, k3, k4⟩ = kC at *
  generalize keyV ⟨k0, k1, k2, k3, k4⟩ = kV at *
  obtain ⟨V0, V1, V2, V3, V4⟩ := V
  show Calls Tryd.prog 25 #[.pointer (some ⟨gM, 0, none⟩), .agg #[.int .i64 3, .int .i64 x1, .int .i64 x2, .int .i64 x3, .int .i64 k0, .int .i64 k1, .float .f64 k2, .string k3, .int .i64 k4, .int .i64 v0, .int .i64 v1, .float .f64 v2, .string v3, .int .i64 v4]] w _
  have HB := Aside0.mk (below_alloc (below_alloc (Below.refl w.heap.size w) (.cells #[.int .i64 3, .int .i64 x1, .int .i64 x2, .int .i64 x3, .int .i64 k0, .int .i64 k1, .float .f64 k2, .string k3, .int .i64 k4, .int .i64 v0, .int .i64 v1, .float .f64 v2, .string v3, .int .i64 v4] 31)) (.cells #[.int .i64 0, .int .i64 0, .int .i64 0, .int .i64 0, .float .f64 0, .string ⟨#[]⟩, .int .i64 0, .int .i64 0, .int .i64 0, .float .f64 0, .string ⟨#[]⟩, .int .i64 0] 60))
  have BX := Aside0.mk (heap_alloc2_old w (.cells #[.int .i64 3, .int .i64 x1, .int .i64 x2, .int .i64 x3, .int .i64 k0, .int .i64 k1, .float .f64 k2, .string k3, .int .i64 k4, .int .i64 v0, .int .i64 v1, .float .f64 v2, .string v3, .int .i64 v4] 31) (.cells #[.int .i64 0, .int .i64 0, .int .i64 0, .int .i64 0, .float .f64 0, .string ⟨#[]⟩, .int .i64 0, .int .i64 0, .int .i64 0, .float .f64 0, .string ⟨#[]⟩, .int .i64 0] 60))
  have BA := Aside0.mk (heap_alloc2_new w (.cells #[.int .i64 3, .int .i64 x1, .int .i64 x2, .int .i64 x3, .int .i64 k0, .int .i64 k1, .float .f64 k2, .string k3, .int .i64 k4, .int .i64 v0, .int .i64 v1, .float .f64 v2, .string v3, .int .i64 v4] 31) (.cells #[.int .i64 0, .int .i64 0, .int .i64 0, .int .i64 0, .float .f64 0, .string ⟨#[]⟩, .int .i64 0, .int .i64 0, .int .i64 0, .float .f64 0, .string ⟨#[]⟩, .int .i64 0] 60))
  have LE := hs.le
  have lt1 := blk_lt hs.M
  have HA : Aside0 (∀ w1, Calls Tryd.prog 6 #[.agg #[.int .i64 3, .int .i64 x1, .int .i64 x2, .int .i64 x3, .int .i64 k0, .int .i64 k1, .float .f64 k2, .string k3, .int .i64 k4, .int .i64 v0, .int .i64 v1, .float .f64 v2, .string v3, .int .i64 v4]] w1 fun e w' => e = .returned (.bool true) ∧ Below w1.heap.size w1 w') := ⟨fun w1 => by have := specAct_calls ⟨3, x1, x2, x3, ⟨k0, k1, k2, k3, k4⟩, ⟨v0, v1, v2, v3, v4⟩⟩ w1; rw [hok] at this; exact this⟩
  clear hok
  have hu := Tryd.underlying29
  have hu2 := Tryd.underlying31
  have hu3 := Tryd.underlying58
  have hu4 := Tryd.underlying37
  have hu5 := Tryd.underlying60
  have hu6 := Tryd.underlying74
  have hu7 := Tryd.underlying78
  have hu8 := Tryd.underlying88
  go_enter Tryd.func25, Tryd.ntmps25
  go_wp2_with (first | (go_at_call 6; refine (HA.out _).mono ?_; rintro e w1 ⟨rfl, hb⟩; have HW := Aside0.mk (below_step HB.out hb); have BX1 := Aside0.mk (blk_below BX.out hb); have BA1 := Aside0.mk (blk_below BA.out hb); have HS1 := Aside0.mk (HS.out.below HW.out); clear HB BX BA HA hb HS; obtain ⟨xz0, xz1, xz2, xz3, xz4, xz5, xz6, xz7, xz8, xz9, xz10, xz11, xz12, xz13⟩ := c14 BX1.out; obtain ⟨⟨az0, az1, az2, az3, az4, az5, az6, az7, az8, az9, az10, az11⟩, af0, af1, af2, af3, af4, af5, af6, af7, af8, af9, af10, af11⟩ := c12 BA1.out; have mz0 := (blk_cell HS1.out.M 0).trans (show _ = some _ from rfl); have mz1 := (blk_cell HS1.out.M 1).trans (show _ = some _ from rfl); have lt2 := blk_lt BA1.out) | (go_at_call 37; refine (wants_calls _ _).mono ?_; rintro e w2 ⟨rfl, rfl⟩))
  go_quiet (fail)
  go_wp2
  go_quiet (fail)
  go_wp2_with (first | (go_at_call 38; refine (HK.out _).mono ?_; rintro e w3 ⟨rfl, hb⟩; replace hb : Below w2.heap.size w2 w3 := ⟨hb.os, hb.tape, hb.output, hb.size, hb.block⟩; have HW2 := Aside0.mk (below_step HW.out hb); have BX2 := Aside0.mk (blk_below BX1.out hb); have BA2 := Aside0.mk (blk_below BA1.out hb); have HS2 := Aside0.mk (HS1.out.below hb); clear HK hb HW HS1 BX1 BA1 xz0 xz1 xz2 xz3 xz4 xz5 xz6 xz7 xz8 xz9 xz10 xz11 xz12 xz13 az0 az1 az2 az3 az4 az5 az6 az7 az8 az9 az10 az11 af0 af1 af2 af3 af4 af5 af6 af7 af8 af9 af10 af11 mz0 mz1; obtain ⟨xz0, xz1, xz2, xz3, xz4, xz5, xz6, xz7, xz8, xz9, xz10, xz11, xz12, xz13⟩ := c14 BX2.out; obtain ⟨⟨az0, az1, az2, az3, az4, az5, az6, az7, az8, az9, az10, az11⟩, af0, af1, af2, af3, af4, af5, af6, af7, af8, af9, af10, af11⟩ := c12 BA2.out; have mz0 := (blk_cell HS2.out.M 0).trans (show _ = some _ from rfl); have mz1 := (blk_cell HS2.out.M 1).trans (show _ = some _ from rfl); have lt2 := blk_lt BA2.out; have lt3 := blk_lt HS2.out.M; have lt4 := blk_lt BX2.out) | (go_at_call 40; refine (HG.out _ _ (blk_alloc HS2.out.M _) (Kd.C_alloc (Kd.S_reads' HS2.out.T).2.2 _)).mono ?_; rintro e w4 ⟨rfl, hb⟩; have HW3 := Aside0.mk (below_step (below_alloc HW2.out _) hb); have BA3 := Aside0.mk (blk_below (blk_alloc BA2.out _) hb); have HS3 := Aside0.mk ((HS2.out.below (below_alloc (Below.refl _ _) _)).below hb); obtain ⟨⟨bz0, bz1, bz2, bz3, bz4, bz5, bz6, bz7, bz8, bz9, bz10, bz11⟩, bf0, bf1, bf2, bf3, bf4, bf5, bf6, bf7, bf8, bf9, bf10, bf11⟩ := c12 BA3.out; have lt5 := blk_lt BA3.out; unfold vc; simp only []))
  exact bodyPost_ret (ret60 rfl rfl (set12 BA3.out)) rfl (doneS HS3.out (KT.below HW3.out) BA3.out (by omega) (by omega) ⟨0, 0, z29, ⟨V0, V1, V2, V3, V4⟩⟩)
end Go.Proofs.YtclploookcjcbaaDoor.PIde
