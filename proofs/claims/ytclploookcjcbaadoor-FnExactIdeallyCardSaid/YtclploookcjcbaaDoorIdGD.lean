/- Proved: the reference's step: a table is asked; the reference's step: a key is written; the reference's step: a table comes, a site comes; the reference's step: a site's field is read or written; what the reference's step comes to, act by act in one; a play's steps keep the tables within their bounds. Conditions: those each theorem states. -/
import Derived.Test.YtclploookcjcbaaDoorIdGC
import Derived.Deep.RegionLaw
import Derived.Deep.RegionHeld3
namespace Go.Proofs.YtclploookcjcbaaDoor.PIde
open Go.RowKit Go.Proofs.YtclploookcjcbaaDoorW.PrintWords Go.Proofs.YtclploookcjcbaaDoorW.PrintLast Go.Proofs.YtclploookcjcbaaDoorW.PrintMore
attribute [local go_sem] max2_int min2_int max_two min_two max_three min_three max_four min_four   -- for this text's walks alone
set_option linter.unusedVariables false
set_option linter.unusedSimpArgs false
set_option maxHeartbeats 8000000 in
set_option maxRecDepth 100000 in
theorem doS_count (w0 w : World) (base gM : Nat) (tv sv : Value) (ts : List S78) (ss : List ByteArray) (x : S31) (hs : SSt w0 w base gM tv sv ts ss) (hn : x.f0 = 6) (hok : aB x = true) (h0 : 0 ≤ x.f1) (hlt : x.f1 < (ts.length : Int)) :
    Calls Tryd.prog 25 #[.pointer (some ⟨gM, 0, none⟩), .agg (ac x).toArray] w (DoneS w0 w base gM (askA x (rd_T78 ts x.f1).f0, ts, ss)) := by
  obtain ⟨tA, tc, rfl⟩ := Kd.S_slice hs.T
  obtain ⟨sA, sc, rfl⟩ := Kd.R_slice hs.S
  have HS := Aside0.mk hs
  obtain ⟨x0, x1, x2, x3, ⟨k0, k1, k2, k3, k4⟩, ⟨v0, v1, v2, v3, v4⟩⟩ := x
  obtain rfl : x0 = 6 := hn
  simp only [] at h0 hlt
  have hd := decide_eq_false (show ¬ (ts.length : Int) ≤ x1 by omega)
  have HK : Aside0 (∀ w1, Calls Tryd.prog 38 #[.agg #[.int .i64 k0, .int .i64 k1, .float .f64 k2, .string k3, .int .i64 k4]] w1 fun e w' => e = .returned (.agg #[.int .i64 (keyC ⟨k0, k1, k2, k3, k4⟩), .int .i64 (keyV ⟨k0, k1, k2, k3, k4⟩).f0, .int .i64 (keyV ⟨k0, k1, k2, k3, k4⟩).f1, .float .f64 (keyV ⟨k0, k1, k2, k3, k4⟩).f2, .string (keyV ⟨k0, k1, k2, k3, k4⟩).f3, .int .i64 (keyV ⟨k0, k1, k2, k3, k4⟩).f4]) ∧ Below w1.heap.size w1 w') := ⟨fun w1 => specKey_calls ⟨k0, k1, k2, k3, k4⟩ w1⟩
  have HQ : Aside0 (∀ w1 A0 c0, Kd.C k88 w1 A0 (rd_T78 ts x1).f0.length (rd_T78 ts x1).f0 → Calls Tryd.prog 42 #[.slice A0 (rd_T78 ts x1).f0.length c0, .agg #[.int .i64 6, .int .i64 x1, .int .i64 x2, .int .i64 x3, .int .i64 k0, .int .i64 k1, .float .f64 k2, .string k3, .int .i64 k4, .int .i64 v0, .int .i64 v1, .float .f64 v2, .string v3, .int .i64 v4]] w1 fun e w' => e = .returned (.agg (anc (askA ⟨6, x1, x2, x3, ⟨k0, k1, k2, k3, k4⟩, ⟨v0, v1, v2, v3, v4⟩⟩ (rd_T78 ts x1).f0)).toArray) ∧ Below w1.heap.size w1 w') := ⟨fun w1 A0 c0 hC => ask_count ⟨6, x1, x2, x3, ⟨k0, k1, k2, k3, k4⟩, ⟨v0, v1, v2, v3, v4⟩⟩ rfl _ A0 c0 w1 hC⟩
  generalize askA ⟨6, x1, x2, x3, ⟨k0, k1, k2, k3, k4⟩, ⟨v0, v1, v2, v3, v4⟩⟩ (rd_T78 ts x1).f0 = R at *
  have HTT := Aside0.mk (fun w1 (hC : Kd.C k78 w1 tA ts.length ts) => at_T78 hC x1 h0 hlt)
  generalize rd_T78 ts x1 = Tb at *
  obtain ⟨r0, r1, ⟨r2, r3, r4, r5, r6⟩, ⟨r7, r8, r9, r10, r11⟩⟩ := R
  generalize keyC ⟨k0, k1, k2, k3, k4⟩ = kC at *
  generalize keyV ⟨k0, k1, k2, k3, k4⟩ = kV at *
  show Calls Tryd.prog 25 #[.pointer (some ⟨gM, 0, none⟩), .agg #[.int .i64 6, .int .i64 x1, .int .i64 x2, .int .i64 x3, .int .i64 k0, .int .i64 k1, .float .f64 k2, .string k3, .int .i64 k4, .int .i64 v0, .int .i64 v1, .float .f64 v2, .string v3, .int .i64 v4]] w _
  have HB := Aside0.mk (below_alloc (below_alloc (Below.refl w.heap.size w) (.cells #[.int .i64 6, .int .i64 x1, .int .i64 x2, .int .i64 x3, .int .i64 k0, .int .i64 k1, .float .f64 k2, .string k3, .int .i64 k4, .int .i64 v0, .int .i64 v1, .float .f64 v2, .string v3, .int .i64 v4] 31)) (.cells #[.int .i64 0, .int .i64 0, .int .i64 0, .int .i64 0, .float .f64 0, .string ⟨#[]⟩, .int .i64 0, .int .i64 0, .int .i64 0, .float .f64 0, .string ⟨#[]⟩, .int .i64 0] 60))
  have BX := Aside0.mk (heap_alloc2_old w (.cells #[.int .i64 6, .int .i64 x1, .int .i64 x2, .int .i64 x3, .int .i64 k0, .int .i64 k1, .float .f64 k2, .string k3, .int .i64 k4, .int .i64 v0, .int .i64 v1, .float .f64 v2, .string v3, .int .i64 v4] 31) (.cells #[.int .i64 0, .int .i64 0, .int .i64 0, .int .i64 0, .float .f64 0, .string ⟨#[]⟩, .int .i64 0, .int .i64 0, .int .i64 0, .float .f64 0, .string ⟨#[]⟩, .int .i64 0] 60))
  have BA := Aside0.mk (heap_alloc2_new w (.cells #[.int .i64 6, .int .i64 x1, .int .i64 x2, .int .i64 x3, .int .i64 k0, .int .i64 k1, .float .f64 k2, .string k3, .int .i64 k4, .int .i64 v0, .int .i64 v1, .float .f64 v2, .string v3, .int .i64 v4] 31) (.cells #[.int .i64 0, .int .i64 0, .int .i64 0, .int .i64 0, .float .f64 0, .string ⟨#[]⟩, .int .i64 0, .int .i64 0, .int .i64 0, .float .f64 0, .string ⟨#[]⟩, .int .i64 0] 60))
  have LE := hs.le
  have lt1 := blk_lt hs.M
  have HA : Aside0 (∀ w1, Calls Tryd.prog 6 #[.agg #[.int .i64 6, .int .i64 x1, .int .i64 x2, .int .i64 x3, .int .i64 k0, .int .i64 k1, .float .f64 k2, .string k3, .int .i64 k4, .int .i64 v0, .int .i64 v1, .float .f64 v2, .string v3, .int .i64 v4]] w1 fun e w' => e = .returned (.bool true) ∧ Below w1.heap.size w1 w') := ⟨fun w1 => by have := specAct_calls ⟨6, x1, x2, x3, ⟨k0, k1, k2, k3, k4⟩, ⟨v0, v1, v2, v3, v4⟩⟩ w1; rw [hok] at this; exact this⟩
  clear hok
  have hu := Tryd.underlying29
  have hu2 := Tryd.underlying31
  have hu3 := Tryd.underlying58
  have hu4 := Tryd.underlying37
  have hu5 := Tryd.underlying60
  have hu6 := Tryd.underlying74
  have hu7 := Tryd.underlying78
  have hu8 := Tryd.underlying88
  go_enter Tryd.func25, Tryd.ntmps25
  go_wp2_with (first | (go_at_call 6; refine (HA.out _).mono ?_; rintro e w1 ⟨rfl, hb⟩; have HW := Aside0.mk (below_step HB.out hb); have BX1 := Aside0.mk (blk_below BX.out hb); have BA1 := Aside0.mk (blk_below BA.out hb); have HS1 := Aside0.mk (HS.out.below HW.out); clear HB BX BA HA hb HS; obtain ⟨xz0, xz1, xz2, xz3, xz4, xz5, xz6, xz7, xz8, xz9, xz10, xz11, xz12, xz13⟩ := c14 BX1.out; obtain ⟨⟨az0, az1, az2, az3, az4, az5, az6, az7, az8, az9, az10, az11⟩, af0, af1, af2, af3, af4, af5, af6, af7, af8, af9, af10, af11⟩ := c12 BA1.out; have mz0 := (blk_cell HS1.out.M 0).trans (show _ = some _ from rfl); have mz1 := (blk_cell HS1.out.M 1).trans (show _ = some _ from rfl); have lt2 := blk_lt BA1.out) | (go_at_call 37; refine (wants_calls _ _).mono ?_; rintro e w2 ⟨rfl, rfl⟩))
  go_quiet (fail)
  go_wp2
  go_quiet (fail)
  go_wp2_with (first | (go_at_call 38; refine (HK.out _).mono ?_; rintro e w3 ⟨rfl, hb⟩; replace hb : Below w2.heap.size w2 w3 := ⟨hb.os, hb.tape, hb.output, hb.size, hb.block⟩; have HW2 := Aside0.mk (below_step HW.out hb); have BX2 := Aside0.mk (blk_below BX1.out hb); have BA2 := Aside0.mk (blk_below BA1.out hb); have HS2 := Aside0.mk (HS1.out.below hb); clear HK hb HW HS1 BX1 BA1 xz0 xz1 xz2 xz3 xz4 xz5 xz6 xz7 xz8 xz9 xz10 xz11 xz12 xz13 az0 az1 az2 az3 az4 az5 az6 az7 az8 az9 az10 az11 af0 af1 af2 af3 af4 af5 af6 af7 af8 af9 af10 af11 mz0 mz1; obtain ⟨xz0, xz1, xz2, xz3, xz4, xz5, xz6, xz7, xz8, xz9, xz10, xz11, xz12, xz13⟩ := c14 BX2.out; obtain ⟨⟨az0, az1, az2, az3, az4, az5, az6, az7, az8, az9, az10, az11⟩, af0, af1, af2, af3, af4, af5, af6, af7, af8, af9, af10, af11⟩ := c12 BA2.out; have mz0 := (blk_cell HS2.out.M 0).trans (show _ = some _ from rfl); have mz1 := (blk_cell HS2.out.M 1).trans (show _ = some _ from rfl); have lt2 := blk_lt BA2.out; have lt3 := blk_lt HS2.out.M; have lt4 := blk_lt BX2.out); obtain ⟨ad, A0, c0, e1, tz0, tz1, tl0, tc0⟩ := HTT.out w3 (Kd.S_reads' HS2.out.T).2.2; cases e1; have lt6 := World.block_lt_of_cell? w3 _ tz0; have TC := Aside0.mk tc0; clear tc0)
  go_region_law (go_simp; go_at_call 42; refine (HQ.out _ A0 c0 (Kd.C_drew (Kd.C_alloc TC.out _))).mono ?_; rintro e w4 ⟨rfl, hb⟩; replace hb := undrew hb; have HW3 := Aside0.mk (below_step (below_alloc HW2.out _) hb); have BA3 := Aside0.mk (blk_below (blk_alloc BA2.out _) hb); have HS3 := Aside0.mk ((HS2.out.below (below_alloc (Below.refl _ _) _)).below hb); obtain ⟨⟨bz0, bz1, bz2, bz3, bz4, bz5, bz6, bz7, bz8, bz9, bz10, bz11⟩, bf0, bf1, bf2, bf3, bf4, bf5, bf6, bf7, bf8, bf9, bf10, bf11⟩ := c12 BA3.out; have lt5 := blk_lt BA3.out; unfold anc vc; simp only [List.cons_append, List.nil_append])
  all_goals
    go_wp2
    exact bodyPost_ret (ret60 rfl rfl (set12 BA3.out)) rfl (doneS HS3.out (KT.below HW3.out) BA3.out (by omega) (by omega) ⟨r0, r1, ⟨r2, r3, r4, r5, r6⟩, ⟨r7, r8, r9, r10, r11⟩⟩)
set_option maxHeartbeats 8000000 in
set_option maxRecDepth 100000 in
theorem doS_after (w0 w : World) (base gM : Nat) (tv sv : Value) (ts : List S78) (ss : List ByteArray) (x : S31) (hs : SSt w0 w base gM tv sv ts ss) (hn : x.f0 = 4) (hok : aB x = true) (h0 : 0 ≤ x.f1) (hlt : x.f1 < (ts.length : Int)) (h3 : 0 ≤ x.f3) :
    Calls Tryd.prog 25 #[.pointer (some ⟨gM, 0, none⟩), .agg (ac x).toArray] w (DoneS w0 w base gM (askA x (rd_T78 ts x.f1).f0, ts, ss)) := by
  obtain ⟨tA, tc, rfl⟩ := Kd.S_slice hs.T
  obtain ⟨sA, sc, rfl⟩ := Kd.R_slice hs.S
  have HS := Aside0.mk hs
  obtain ⟨x0, x1, x2, x3, ⟨k0, k1, k2, k3, k4⟩, ⟨v0, v1, v2, v3, v4⟩⟩ := x
  obtain rfl : x0 = 4 := hn
  simp only [] at h0 hlt
  have hd := decide_eq_false (show ¬ (ts.length : Int) ≤ x1 by omega)
  have HK : Aside0 (∀ w1, Calls Tryd.prog 38 #[.agg #[.int .i64 k0, .int .i64 k1, .float .f64 k2, .string k3, .int .i64 k4]] w1 fun e w' => e = .returned (.agg #[.int .i64 (keyC ⟨k0, k1, k2, k3, k4⟩), .int .i64 (keyV ⟨k0, k1, k2, k3, k4⟩).f0, .int .i64 (keyV ⟨k0, k1, k2, k3, k4⟩).f1, .float .f64 (keyV ⟨k0, k1, k2, k3, k4⟩).f2, .string (keyV ⟨k0, k1, k2, k3, k4⟩).f3, .int .i64 (keyV ⟨k0, k1, k2, k3, k4⟩).f4]) ∧ Below w1.heap.size w1 w') := ⟨fun w1 => specKey_calls ⟨k0, k1, k2, k3, k4⟩ w1⟩
  have HQ : Aside0 (∀ w1 A0 c0, Kd.C k88 w1 A0 (rd_T78 ts x1).f0.length (rd_T78 ts x1).f0 → Calls Tryd.prog 42 #[.slice A0 (rd_T78 ts x1).f0.length c0, .agg #[.int .i64 4, .int .i64 x1, .int .i64 x2, .int .i64 x3, .int .i64 k0, .int .i64 k1, .float .f64 k2, .string k3, .int .i64 k4, .int .i64 v0, .int .i64 v1, .float .f64 v2, .string v3, .int .i64 v4]] w1 fun e w' => e = .returned (.agg (anc (askA ⟨4, x1, x2, x3, ⟨k0, k1, k2, k3, k4⟩, ⟨v0, v1, v2, v3, v4⟩⟩ (rd_T78 ts x1).f0)).toArray) ∧ Below w1.heap.size w1 w') := ⟨fun w1 A0 c0 hC => ask_after ⟨4, x1, x2, x3, ⟨k0, k1, k2, k3, k4⟩, ⟨v0, v1, v2, v3, v4⟩⟩ rfl h3 _ A0 c0 w1 hC⟩
  generalize askA ⟨4, x1, x2, x3, ⟨k0, k1, k2, k3, k4⟩, ⟨v0, v1, v2, v3, v4⟩⟩ (rd_T78 ts x1).f0 = R at *
  have HTT := Aside0.mk (fun w1 (hC : Kd.C k78 w1 tA ts.length ts) => at_T78 hC x1 h0 hlt)
  generalize rd_T78 ts x1 = Tb at *
  obtain ⟨r0, r1, ⟨r2, r3, r4, r5, r6⟩, ⟨r7, r8, r9, r10, r11⟩⟩ := R
  generalize keyC ⟨k0, k1, k2, k3, k4⟩ = kC at *
  generalize keyV ⟨k0, k1, k2, k3, k4⟩ = kV at *
  show Calls Tryd.prog 25 #[.pointer (some ⟨gM, 0, none⟩), .agg #[.int .i64 4, .int .i64 x1, .int .i64 x2, .int .i64 x3, .int .i64 k0, .int .i64 k1, .float .f64 k2, .string k3, .int .i64 k4, .int .i64 v0, .int .i64 v1, .float .f64 v2, .string v3, .int .i64 v4]] w _
  have HB := Aside0.mk (below_alloc (below_alloc (Below.refl w.heap.size w) (.cells #[.int .i64 4, .int .i64 x1, .int .i64 x2, .int .i64 x3, .int .i64 k0, .int .i64 k1, .float .f64 k2, .string k3, .int .i64 k4, .int .i64 v0, .int .i64 v1, .float .f64 v2, .string v3, .int .i64 v4] 31)) (.cells #[.int .i64 0, .int .i64 0, .int .i64 0, .int .i64 0, .float .f64 0, .string ⟨#[]⟩, .int .i64 0, .int .i64 0, .int .i64 0, .float .f64 0, .string ⟨#[]⟩, .int .i64 0] 60))
  have BX := Aside0.mk (heap_alloc2_old w (.cells #[.int .i64 4, .int .i64 x1, .int .i64 x2, .int .i64 x3, .int .i64 k0, .int .i64 k1, .float .f64 k2, .string k3, .int .i64 k4, .int .i64 v0, .int .i64 v1, .float .f64 v2, .string v3, .int .i64 v4] 31) (.cells #[.int .i64 0, .int .i64 0, .int .i64 0, .int .i64 0, .float .f64 0, .string ⟨#[]⟩, .int .i64 0, .int .i64 0, .int .i64 0, .float .f64 0, .string ⟨#[]⟩, .int .i64 0] 60))
  have BA := Aside0.mk (heap_alloc2_new w (.cells #[.int .i64 4, .int .i64 x1, .int .i64 x2, .int .i64 x3, .int .i64 k0, .int .i64 k1, .float .f64 k2, .string k3, .int .i64 k4, .int .i64 v0, .int .i64 v1, .float .f64 v2, .string v3, .int .i64 v4] 31) (.cells #[.int .i64 0, .int .i64 0, .int .i64 0, .int .i64 0, .float .f64 0, .string ⟨#[]⟩, .int .i64 0, .int .i64 0, .int .i64 0, .float .f64 0, .string ⟨#[]⟩, .int .i64 0] 60))
  have LE := hs.le
  have lt1 := blk_lt hs.M
  have HA : Aside0 (∀ w1, Calls Tryd.prog 6 #[.agg #[.int .i64 4, .int .i64 x1, .int .i64 x2, .int .i64 x3, .int .i64 k0, .int .i64 k1, .float .f64 k2, .string k3, .int .i64 k4, .int .i64 v0, .int .i64 v1, .float .f64 v2, .string v3, .int .i64 v4]] w1 fun e w' => e = .returned (.bool true) ∧ Below w1.heap.size w1 w') := ⟨fun w1 => by have := specAct_calls ⟨4, x1, x2, x3, ⟨k0, k1, k2, k3, k4⟩, ⟨v0, v1, v2, v3, v4⟩⟩ w1; rw [hok] at this; exact this⟩
  clear hok
  have hu := Tryd.underlying29
  have hu2 := Tryd.underlying31
  have hu3 := Tryd.underlying58
  have hu4 := Tryd.underlying37
  have hu5 := Tryd.underlying60
  have hu6 := Tryd.underlying74
  have hu7 := Tryd.underlying78
  have hu8 := Tryd.underlying88
  go_enter Tryd.func25, Tryd.ntmps25
  go_wp2_with (first | (go_at_call 6; refine (HA.out _).mono ?_; rintro e w1 ⟨rfl, hb⟩; have HW := Aside0.mk (below_step HB.out hb); have BX1 := Aside0.mk (blk_below BX.out hb); have BA1 := Aside0.mk (blk_below BA.out hb); have HS1 := Aside0.mk (HS.out.below HW.out); clear HB BX BA HA hb HS; obtain ⟨xz0, xz1, xz2, xz3, xz4, xz5, xz6, xz7, xz8, xz9, xz10, xz11, xz12, xz13⟩ := c14 BX1.out; obtain ⟨⟨az0, az1, az2, az3, az4, az5, az6, az7, az8, az9, az10, az11⟩, af0, af1, af2, af3, af4, af5, af6, af7, af8, af9, af10, af11⟩ := c12 BA1.out; have mz0 := (blk_cell HS1.out.M 0).trans (show _ = some _ from rfl); have mz1 := (blk_cell HS1.out.M 1).trans (show _ = some _ from rfl); have lt2 := blk_lt BA1.out) | (go_at_call 37; refine (wants_calls _ _).mono ?_; rintro e w2 ⟨rfl, rfl⟩))
  go_quiet (fail)
  go_wp2
  go_quiet (fail)
  go_wp2_with (first | (go_at_call 38; refine (HK.out _).mono ?_; rintro e w3 ⟨rfl, hb⟩; replace hb : Below w2.heap.size w2 w3 := ⟨hb.os, hb.tape, hb.output, hb.size, hb.block⟩; have HW2 := Aside0.mk (below_step HW.out hb); have BX2 := Aside0.mk (blk_below BX1.out hb); have BA2 := Aside0.mk (blk_below BA1.out hb); have HS2 := Aside0.mk (HS1.out.below hb); clear HK hb HW HS1 BX1 BA1 xz0 xz1 xz2 xz3 xz4 xz5 xz6 xz7 xz8 xz9 xz10 xz11 xz12 xz13 az0 az1 az2 az3 az4 az5 az6 az7 az8 az9 az10 az11 af0 af1 af2 af3 af4 af5 af6 af7 af8 af9 af10 af11 mz0 mz1; obtain ⟨xz0, xz1, xz2, xz3, xz4, xz5, xz6, xz7, xz8, xz9, xz10, xz11, xz12, xz13⟩ := c14 BX2.out; obtain ⟨⟨az0, az1, az2, az3, az4, az5, az6, az7, az8, az9, az10, az11⟩, af0, af1, af2, af3, af4, af5, af6, af7, af8, af9, af10, af11⟩ := c12 BA2.out; have mz0 := (blk_cell HS2.out.M 0).trans (show _ = some _ from rfl); have mz1 := (blk_cell HS2.out.M 1).trans (show _ = some _ from rfl); have lt2 := blk_lt BA2.out; have lt3 := blk_lt HS2.out.M; have lt4 := blk_lt BX2.out); obtain ⟨ad, A0, c0, e1, tz0, tz1, tl0, tc0⟩ := HTT.out w3 (Kd.S_reads' HS2.out.T).2.2; cases e1; have lt6 := World.block_lt_of_cell? w3 _ tz0; have TC := Aside0.mk tc0; clear tc0)
  go_region_law (go_simp; go_at_call 42; refine (HQ.out _ A0 c0 (Kd.C_drew (Kd.C_alloc TC.out _))).mono ?_; rintro e w4 ⟨rfl, hb⟩; replace hb := undrew hb; have HW3 := Aside0.mk (below_step (below_alloc HW2.out _) hb); have BA3 := Aside0.mk (blk_below (blk_alloc BA2.out _) hb); have HS3 := Aside0.mk ((HS2.out.below (below_alloc (Below.refl _ _) _)).below hb); obtain ⟨⟨bz0, bz1, bz2, bz3, bz4, bz5, bz6, bz7, bz8, bz9, bz10, bz11⟩, bf0, bf1, bf2, bf3, bf4, bf5, bf6, bf7, bf8, bf9, bf10, bf11⟩ := c12 BA3.out; have lt5 := blk_lt BA3.out; unfold anc vc; simp only [List.cons_append, List.nil_append])
  all_goals
    go_wp2
    exact bodyPost_ret (ret60 rfl rfl (set12 BA3.out)) rfl (doneS HS3.out (KT.below HW3.out) BA3.out (by omega) (by omega) ⟨r0, r1, ⟨r2, r3, r4, r5, r6⟩, ⟨r7, r8, r9, r10, r11⟩⟩)
set_option maxHeartbeats 8000000 in
set_option maxRecDepth 100000 in
theorem doS_len (w0 w : World) (base gM : Nat) (tv sv : Value) (ts : List S78) (ss : List ByteArray) (x : S31) (hs : SSt w0 w base gM tv sv ts ss) (hn : x.f0 = 5) (hok : aB x = true) (h0 : 0 ≤ x.f1) (hlt : x.f1 < (ts.length : Int)) (h5 : (rd_T78 ts x.f1).f0.length ≤ 1000) :
    Calls Tryd.prog 25 #[.pointer (some ⟨gM, 0, none⟩), .agg (ac x).toArray] w (DoneS w0 w base gM (askA x (rd_T78 ts x.f1).f0, ts, ss)) := by
  obtain ⟨tA, tc, rfl⟩ := Kd.S_slice hs.T
  obtain ⟨sA, sc, rfl⟩ := Kd.R_slice hs.S
  have HS := Aside0.mk hs
  obtain ⟨x0, x1, x2, x3, ⟨k0, k1, k2, k3, k4⟩, ⟨v0, v1, v2, v3, v4⟩⟩ := x
  obtain rfl : x0 = 5 := hn
  simp only [] at h0 hlt
  have hd := decide_eq_false (show ¬ (ts.length : Int) ≤ x1 by omega)
  have HK : Aside0 (∀ w1, Calls Tryd.prog 38 #[.agg #[.int .i64 k0, .int .i64 k1, .float .f64 k2, .string k3, .int .i64 k4]] w1 fun e w' => e = .returned (.agg #[.int .i64 (keyC ⟨k0, k1, k2, k3, k4⟩), .int .i64 (keyV ⟨k0, k1, k2, k3, k4⟩).f0, .int .i64 (keyV ⟨k0, k1, k2, k3, k4⟩).f1, .float .f64 (keyV ⟨k0, k1, k2, k3, k4⟩).f2, .string (keyV ⟨k0, k1, k2, k3, k4⟩).f3, .int .i64 (keyV ⟨k0, k1, k2, k3, k4⟩).f4]) ∧ Below w1.heap.size w1 w') := ⟨fun w1 => specKey_calls ⟨k0, k1, k2, k3, k4⟩ w1⟩
  have HQ : Aside0 (∀ w1 A0 c0, Kd.C k88 w1 A0 (rd_T78 ts x1).f0.length (rd_T78 ts x1).f0 → Calls Tryd.prog 42 #[.slice A0 (rd_T78 ts x1).f0.length c0, .agg #[.int .i64 5, .int .i64 x1, .int .i64 x2, .int .i64 x3, .int .i64 k0, .int .i64 k1, .float .f64 k2, .string k3, .int .i64 k4, .int .i64 v0, .int .i64 v1, .float .f64 v2, .string v3, .int .i64 v4]] w1 fun e w' => e = .returned (.agg (anc (askA ⟨5, x1, x2, x3, ⟨k0, k1, k2, k3, k4⟩, ⟨v0, v1, v2, v3, v4⟩⟩ (rd_T78 ts x1).f0)).toArray) ∧ Below w1.heap.size w1 w') := ⟨fun w1 A0 c0 hC => ask_len ⟨5, x1, x2, x3, ⟨k0, k1, k2, k3, k4⟩, ⟨v0, v1, v2, v3, v4⟩⟩ rfl _ h5 A0 c0 w1 hC⟩
  generalize askA ⟨5, x1, x2, x3, ⟨k0, k1, k2, k3, k4⟩, ⟨v0, v1, v2, v3, v4⟩⟩ (rd_T78 ts x1).f0 = R at *
  have HTT := Aside0.mk (fun w1 (hC : Kd.C k78 w1 tA ts.length ts) => at_T78 hC x1 h0 hlt)
  generalize rd_T78 ts x1 = Tb at *
  obtain ⟨r0, r1, ⟨r2, r3, r4, r5, r6⟩, ⟨r7, r8, r9, r10, r11⟩⟩ := R
  generalize keyC ⟨k0, k1, k2, k3, k4⟩ = kC at *
  generalize keyV ⟨k0, k1, k2, k3, k4⟩ = kV at *
  show Calls Tryd.prog 25 #[.pointer (some ⟨gM, 0, none⟩), .agg #[.int .i64 5, .int .i64 x1, .int .i64 x2, .int .i64 x3, .int .i64 k0, .int .i64 k1, .float .f64 k2, .string k3, .int .i64 k4, .int .i64 v0, .int .i64 v1, .float .f64 v2, .string v3, .int .i64 v4]] w _
  have HB := Aside0.mk (below_alloc (below_alloc (Below.refl w.heap.size w) (.cells #[.int .i64 5, .int .i64 x1, .int .i64 x2, .int .i64 x3, .int .i64 k0, .int .i64 k1, .float .f64 k2, .string k3, .int .i64 k4, .int .i64 v0, .int .i64 v1, .float .f64 v2, .string v3, .int .i64 v4] 31)) (.cells #[.int .i64 0, .int .i64 0, .int .i64 0, .int .i64 0, .float .f64 0, .string ⟨#[]⟩, .int .i64 0, .int .i64 0, .int .i64 0, .float .f64 0, .string ⟨#[]⟩, .int .i64 0] 60))
  have BX := Aside0.mk (heap_alloc2_old w (.cells #[.int .i64 5, .int .i64 x1, .int .i64 x2, .int .i64 x3, .int .i64 k0, .int .i64 k1, .float .f64 k2, .string k3, .int .i64 k4, .int .i64 v0, .int .i64 v1, .float .f64 v2, .string v3, .int .i64 v4] 31) (.cells #[.int .i64 0, .int .i64 0, .int .i64 0, .int .i64 0, .float .f64 0, .string ⟨#[]⟩, .int .i64 0, .int .i64 0, .int .i64 0, .float .f64 0, .string ⟨#[]⟩, .int .i64 0] 60))
  have BA := Aside0.mk (heap_alloc2_new w (.cells #[.int .i64 5, .int .i64 x1, .int .i64 x2, .int .i64 x3, .int .i64 k0, .int .i64 k1, .float .f64 k2, .string k3, .int .i64 k4, .int .i64 v0, .int .i64 v1, .float .f64 v2, .string v3, .int .i64 v4] 31) (.cells #[.int .i64 0, .int .i64 0, .int .i64 0, .int .i64 0, .float .f64 0, .string ⟨#[]⟩, .int .i64 0, .int .i64 0, .int .i64 0, .float .f64 0, .string ⟨#[]⟩, .int .i64 0] 60))
  have LE := hs.le
  have lt1 := blk_lt hs.M
  have HA : Aside0 (∀ w1, Calls Tryd.prog 6 #[.agg #[.int .i64 5, .int .i64 x1, .int .i64 x2, .int .i64 x3, .int .i64 k0, .int .i64 k1, .float .f64 k2, .string k3, .int .i64 k4, .int .i64 v0, .int .i64 v1, .float .f64 v2, .string v3, .int .i64 v4]] w1 fun e w' => e = .returned (.bool true) ∧ Below w1.heap.size w1 w') := ⟨fun w1 => by have := specAct_calls ⟨5, x1, x2, x3, ⟨k0, k1, k2, k3, k4⟩, ⟨v0, v1, v2, v3, v4⟩⟩ w1; rw [hok] at this; exact this⟩
  clear hok
  have hu := Tryd.underlying29
  have hu2 := Tryd.underlying31
  have hu3 := Tryd.underlying58
  have hu4 := Tryd.underlying37
  have hu5 := Tryd.underlying60
  have hu6 := Tryd.underlying74
  have hu7 := Tryd.underlying78
  have hu8 := Tryd.underlying88
  go_enter Tryd.func25, Tryd.ntmps25
  go_wp2_with (first | (go_at_call 6; refine (HA.out _).mono ?_; rintro e w1 ⟨rfl, hb⟩; have HW := Aside0.mk (below_step HB.out hb); have BX1 := Aside0.mk (blk_below BX.out hb); have BA1 := Aside0.mk (blk_below BA.out hb); have HS1 := Aside0.mk (HS.out.below HW.out); clear HB BX BA HA hb HS; obtain ⟨xz0, xz1, xz2, xz3, xz4, xz5, xz6, xz7, xz8, xz9, xz10, xz11, xz12, xz13⟩ := c14 BX1.out; obtain ⟨⟨az0, az1, az2, az3, az4, az5, az6, az7, az8, az9, az10, az11⟩, af0, af1, af2, af3, af4, af5, af6, af7, af8, af9, af10, af11⟩ := c12 BA1.out; have mz0 := (blk_cell HS1.out.M 0).trans (show _ = some _ from rfl); have mz1 := (blk_cell HS1.out.M 1).trans (show _ = some _ from rfl); have lt2 := blk_lt BA1.out) | (go_at_call 37; refine (wants_calls _ _).mono ?_; rintro e w2 ⟨rfl, rfl⟩))
  go_quiet (fail)
  go_wp2
  go_quiet (fail)
  go_wp2_with (first | (go_at_call 38; refine (HK.out _).mono ?_; rintro e w3 ⟨rfl, hb⟩; replace hb : Below w2.heap.size w2 w3 := ⟨hb.os, hb.tape, hb.output, hb.size, hb.block⟩; have HW2 := Aside0.mk (below_step HW.out hb); have BX2 := Aside0.mk (blk_below BX1.out hb); have BA2 := Aside0.mk (blk_below BA1.out hb); have HS2 := Aside0.mk (HS1.out.below hb); clear HK hb HW HS1 BX1 BA1 xz0 xz1 xz2 xz3 xz4 xz5 xz6 xz7 xz8 xz9 xz10 xz11 xz12 xz13 az0 az1 az2 az3 az4 az5 az6 az7 az8 az9 az10 az11 af0 af1 af2 af3 af4 af5 af6 af7 af8 af9 af10 af11 mz0 mz1; obtain ⟨xz0, xz1, xz2, xz3, xz4, xz5, xz6, xz7, xz8, xz9, xz10, xz11, xz12, xz13⟩ := c14 BX2.out; obtain ⟨⟨az0, az1, az2, az3, az4, az5, az6, az7, az8, az9, az10, az11⟩, af0, af1, af2, af3, af4, af5, af6, af7, af8, af9, af10, af11⟩ := c12 BA2.out; have mz0 := (blk_cell HS2.out.M 0).trans (show _ = some _ from rfl); have mz1 := (blk_cell HS2.out.M 1).trans (show _ = some _ from rfl); have lt2 := blk_lt BA2.out; have lt3 := blk_lt HS2.out.M; have lt4 := blk_lt BX2.out); obtain ⟨ad, A0, c0, e1, tz0, tz1, tl0, tc0⟩ := HTT.out w3 (Kd.S_reads' HS2.out.T).2.2; cases e1; have lt6 := World.block_lt_of_cell? w3 _ tz0; have TC := Aside0.mk tc0; clear tc0)
  go_region_law (go_simp; go_at_call 42; refine (HQ.out _ A0 c0 (Kd.C_drew (Kd.C_alloc TC.out _))).mono ?_; rintro e w4 ⟨rfl, hb⟩; replace hb := undrew hb; have HW3 := Aside0.mk (below_step (below_alloc HW2.out _) hb); have BA3 := Aside0.mk (blk_below (blk_alloc BA2.out _) hb); have HS3 := Aside0.mk ((HS2.out.below (below_alloc (Below.refl _ _) _)).below hb); obtain ⟨⟨bz0, bz1, bz2, bz3, bz4, bz5, bz6, bz7, bz8, bz9, bz10, bz11⟩, bf0, bf1, bf2, bf3, bf4, bf5, bf6, bf7, bf8, bf9, bf10, bf11⟩ := c12 BA3.out; have lt5 := blk_lt BA3.out; unfold anc vc; simp only [List.cons_append, List.nil_append])
  all_goals
    go_wp2
    exact bodyPost_ret (ret60 rfl rfl (set12 BA3.out)) rfl (doneS HS3.out (KT.below HW3.out) BA3.out (by omega) (by omega) ⟨r0, r1, ⟨r2, r3, r4, r5, r6⟩, ⟨r7, r8, r9, r10, r11⟩⟩)
end Go.Proofs.YtclploookcjcbaaDoor.PIde
namespace Go.Proofs.YtclploookcjcbaaDoor.PIde
open Go.RowKit Go.Proofs.YtclploookcjcbaaDoorW.PrintWords Go.Proofs.YtclploookcjcbaaDoorW.PrintLast Go.Proofs.YtclploookcjcbaaDoorW.PrintMore
attribute [local go_sem] max2_int min2_int max_two min_two max_three min_three max_four min_four   -- for this text's walks alone
set_option linter.unusedVariables false
set_option linter.unusedSimpArgs false
theorem put_st {w0 w : World} {base gM g tc : Nat} {sv : Value} {ts : List S78} {ss : List ByteArray} (hs : SSt w0 w base gM (.slice (some ⟨g, 0, none⟩) ts.length tc) sv ts ss) (t : Int) (k v : S29) (h0 : 0 ≤ t) (h1 : t < ts.length) (h5 : (rd_T78 ts t).f0.length ≤ 500) (ht0 : 0 ≤ (rd_T78 ts t).f1) (ht1 : (rd_T78 ts t).f1 ≤ 1000000000000) :
    Calls Tryd.prog 39 #[.pointer (some ⟨gM, 0, none⟩), .int .i64 t, .agg (vc k).toArray, .agg (vc v).toArray] w fun e w' => e = .returned (.int .i64 (putA (rd_T78 ts t) (idxL k (rd_T78 ts t).f0) k v).1) ∧ SSt w0 w' base gM (.slice (some ⟨g, 0, none⟩) ts.length tc) sv (ts.set t.toNat (putA (rd_T78 ts t) (idxL k (rd_T78 ts t).f0) k v).2) ss ∧ KT [78, 88] w w' :=
  (put_calls w0 w base gM sv g ts.length tc ts t k v hs.B hs.le hs.M hs.T h0 h1 h5 ht0 ht1).mono fun e w' ⟨he, hT, hB, hK⟩ => ⟨he, ⟨hB, Nat.le_trans hs.le hK.1, hK.blk hs.M (by decide), hs.gm, hT, R_KT hs.S hK (by decide)⟩, hK⟩
set_option maxHeartbeats 8000000 in
set_option maxRecDepth 100000 in
theorem doS_put (w0 w : World) (base gM : Nat) (tv sv : Value) (ts : List S78) (ss : List ByteArray) (x : S31) (hs : SSt w0 w base gM tv sv ts ss) (hn : x.f0 = 2) (hok : aB x = true) (h0 : 0 ≤ x.f1) (hlt : x.f1 < (ts.length : Int)) (hkc : keyC x.f4 = 0) (h5 : (rd_T78 ts x.f1).f0.length ≤ 500) (ht0 : 0 ≤ (rd_T78 ts x.f1).f1) (ht1 : (rd_T78 ts x.f1).f1 ≤ 1000000000000) :
    Calls Tryd.prog 25 #[.pointer (some ⟨gM, 0, none⟩), .agg (ac x).toArray] w (DoneS w0 w base gM (codeA (putA (rd_T78 ts x.f1) (idxL (keyV x.f4) (rd_T78 ts x.f1).f0) (keyV x.f4) x.f5).1, ts.set x.f1.toNat (putA (rd_T78 ts x.f1) (idxL (keyV x.f4) (rd_T78 ts x.f1).f0) (keyV x.f4) x.f5).2, ss)) := by
  obtain ⟨g, tc, he, -, -, -⟩ := Kd.S_form hs.T (by omega)
  subst he
  obtain ⟨sA, sc, rfl⟩ := Kd.R_slice hs.S
  have HS := Aside0.mk hs
  obtain ⟨x0, x1, x2, x3, ⟨k0, k1, k2, k3, k4⟩, ⟨v0, v1, v2, v3, v4⟩⟩ := x
  obtain rfl : x0 = 2 := hn
  simp only [] at h0 hlt
  have hd := decide_eq_false (show ¬ (ts.length : Int) ≤ x1 by omega)
  have HK : Aside0 (∀ w1, Calls Tryd.prog 38 #[.agg #[.int .i64 k0, .int .i64 k1, .float .f64 k2, .string k3, .int .i64 k4]] w1 fun e w' => e = .returned (.agg #[.int .i64 (keyC ⟨k0, k1, k2, k3, k4⟩), .int .i64 (keyV ⟨k0, k1, k2, k3, k4⟩).f0, .int .i64 (keyV ⟨k0, k1, k2, k3, k4⟩).f1, .float .f64 (keyV ⟨k0, k1, k2, k3, k4⟩).f2, .string (keyV ⟨k0, k1, k2, k3, k4⟩).f3, .int .i64 (keyV ⟨k0, k1, k2, k3, k4⟩).f4]) ∧ Below w1.heap.size w1 w') := ⟨fun w1 => specKey_calls ⟨k0, k1, k2, k3, k4⟩ w1⟩
  have hkc2 : (keyC ⟨k0, k1, k2, k3, k4⟩ == 0) = true := by simp only [] at hkc; rw [hkc]; rfl
  have hkc3 := bne_t hkc2
  have hkc4 := Aside0.mk hkc
  clear hkc
  have HP : Aside0 (∀ w1, SSt w0 w1 base gM (.slice (some ⟨g, 0, none⟩) ts.length tc) (.slice sA ss.length sc) ts ss → Calls Tryd.prog 39 #[.pointer (some ⟨gM, 0, none⟩), .int .i64 x1, .agg #[.int .i64 (keyV ⟨k0, k1, k2, k3, k4⟩).f0, .int .i64 (keyV ⟨k0, k1, k2, k3, k4⟩).f1, .float .f64 (keyV ⟨k0, k1, k2, k3, k4⟩).f2, .string (keyV ⟨k0, k1, k2, k3, k4⟩).f3, .int .i64 (keyV ⟨k0, k1, k2, k3, k4⟩).f4], .agg #[.int .i64 v0, .int .i64 v1, .float .f64 v2, .string v3, .int .i64 v4]] w1 fun e w' =>
      e = .returned (.int .i64 (putA (rd_T78 ts x1) (idxL (keyV ⟨k0, k1, k2, k3, k4⟩) (rd_T78 ts x1).f0) (keyV ⟨k0, k1, k2, k3, k4⟩) ⟨v0, v1, v2, v3, v4⟩).1) ∧ SSt w0 w' base gM (.slice (some ⟨g, 0, none⟩) ts.length tc) (.slice sA ss.length sc) (ts.set x1.toNat (putA (rd_T78 ts x1) (idxL (keyV ⟨k0, k1, k2, k3, k4⟩) (rd_T78 ts x1).f0) (keyV ⟨k0, k1, k2, k3, k4⟩) ⟨v0, v1, v2, v3, v4⟩).2) ss ∧ KT [78, 88] w1 w') := ⟨fun w1 hs1 => put_st hs1 x1 (keyV ⟨k0, k1, k2, k3, k4⟩) ⟨v0, v1, v2, v3, v4⟩ h0 hlt h5 ht0 ht1⟩
  clear h5 ht0 ht1
  simp only []
  generalize putA (rd_T78 ts x1) (idxL (keyV ⟨k0, k1, k2, k3, k4⟩) (rd_T78 ts x1).f0) (keyV ⟨k0, k1, k2, k3, k4⟩) ⟨v0, v1, v2, v3, v4⟩ = R at *
  obtain ⟨rc, rT⟩ := R
  generalize keyC ⟨k0, k1, k2, k3, k4⟩ = kC at *
  generalize keyV ⟨k0, k1, k2, k3, k4⟩ = kV at *
  simp only [] at *
  show Calls Tryd.prog 25 #[.pointer (some ⟨gM, 0, none⟩), .agg #[.int .i64 2, .int .i64 x1, .int .i64 x2, .int .i64 x3, .int .i64 k0, .int .i64 k1, .float .f64 k2, .string k3, .int .i64 k4, .int .i64 v0, .int .i64 v1, .float .f64 v2, .string v3, .int .i64 v4]] w _
  have HB := Aside0.mk (below_alloc (below_alloc (Below.refl w.heap.size w) (.cells #[.int .i64 2, .int .i64 x1, .int .i64 x2, .int .i64 x3, .int .i64 k0, .int .i64 k1, .float .f64 k2, .string k3, .int .i64 k4, .int .i64 v0, .int .i64 v1, .float .f64 v2, .string v3, .int .i64 v4] 31)) (.cells #[.int .i64 0, .int .i64 0, .int .i64 0, .int .i64 0, .float .f64 0, .string ⟨#[]⟩, .int .i64 0, .int .i64 0, .int .i64 0, .float .f64 0, .string ⟨#[]⟩, .int .i64 0] 60))
  have BX := Aside0.mk (heap_alloc2_old w (.cells #[.int .i64 2, .int .i64 x1, .int .i64 x2, .int .i64 x3, .int .i64 k0, .int .i64 k1, .float .f64 k2, .string k3, .int .i64 k4, .int .i64 v0, .int .i64 v1, .float .f64 v2, .string v3, .int .i64 v4] 31) (.cells #[.int .i64 0, .int .i64 0, .int .i64 0, .int .i64 0, .float .f64 0, .string ⟨#[]⟩, .int .i64 0, .int .i64 0, .int .i64 0, .float .f64 0, .string ⟨#[]⟩, .int .i64 0] 60))
  have BA := Aside0.mk (heap_alloc2_new w (.cells #[.int .i64 2, .int .i64 x1, .int .i64 x2, .int .i64 x3, .int .i64 k0, .int .i64 k1, .float .f64 k2, .string k3, .int .i64 k4, .int .i64 v0, .int .i64 v1, .float .f64 v2, .string v3, .int .i64 v4] 31) (.cells #[.int .i64 0, .int .i64 0, .int .i64 0, .int .i64 0, .float .f64 0, .string ⟨#[]⟩, .int .i64 0, .int .i64 0, .int .i64 0, .float .f64 0, .string ⟨#[]⟩, .int .i64 0] 60))
  have LE := hs.le
  have lt1 := blk_lt hs.M
  have HA : Aside0 (∀ w1, Calls Tryd.prog 6 #[.agg #[.int .i64 2, .int .i64 x1, .int .i64 x2, .int .i64 x3, .int .i64 k0, .int .i64 k1, .float .f64 k2, .string k3, .int .i64 k4, .int .i64 v0, .int .i64 v1, .float .f64 v2, .string v3, .int .i64 v4]] w1 fun e w' => e = .returned (.bool true) ∧ Below w1.heap.size w1 w') := ⟨fun w1 => by have := specAct_calls ⟨2, x1, x2, x3, ⟨k0, k1, k2, k3, k4⟩, ⟨v0, v1, v2, v3, v4⟩⟩ w1; rw [hok] at this; exact this⟩
  clear hok
  have hu := Tryd.underlying29
  have hu2 := Tryd.underlying31
  have hu3 := Tryd.underlying58
  have hu4 := Tryd.underlying37
  have hu5 := Tryd.underlying60
  have hu6 := Tryd.underlying74
  have hu7 := Tryd.underlying78
  have hu8 := Tryd.underlying88
  go_enter Tryd.func25, Tryd.ntmps25
  go_wp2_with (first | (go_at_call 6; refine (HA.out _).mono ?_; rintro e w1 ⟨rfl, hb⟩; have HW := Aside0.mk (below_step HB.out hb); have BX1 := Aside0.mk (blk_below BX.out hb); have BA1 := Aside0.mk (blk_below BA.out hb); have HS1 := Aside0.mk (HS.out.below HW.out); clear HB BX BA HA hb HS; obtain ⟨xz0, xz1, xz2, xz3, xz4, xz5, xz6, xz7, xz8, xz9, xz10, xz11, xz12, xz13⟩ := c14 BX1.out; obtain ⟨⟨az0, az1, az2, az3, az4, az5, az6, az7, az8, az9, az10, az11⟩, af0, af1, af2, af3, af4, af5, af6, af7, af8, af9, af10, af11⟩ := c12 BA1.out; have mz0 := (blk_cell HS1.out.M 0).trans (show _ = some _ from rfl); have mz1 := (blk_cell HS1.out.M 1).trans (show _ = some _ from rfl); have lt2 := blk_lt BA1.out) | (go_at_call 37; refine (wants_calls _ _).mono ?_; rintro e w2 ⟨rfl, rfl⟩))
  go_quiet (fail)
  go_wp2
  go_quiet (fail)
  go_wp2_with (first | (go_at_call 38; refine (HK.out _).mono ?_; rintro e w3 ⟨rfl, hb⟩; replace hb : Below w2.heap.size w2 w3 := ⟨hb.os, hb.tape, hb.output, hb.size, hb.block⟩; have HW2 := Aside0.mk (below_step HW.out hb); have BX2 := Aside0.mk (blk_below BX1.out hb); have BA2 := Aside0.mk (blk_below BA1.out hb); have HS2 := Aside0.mk (HS1.out.below hb); clear HK hb HW HS1 BX1 BA1 xz0 xz1 xz2 xz3 xz4 xz5 xz6 xz7 xz8 xz9 xz10 xz11 xz12 xz13 az0 az1 az2 az3 az4 az5 az6 az7 az8 az9 az10 az11 af0 af1 af2 af3 af4 af5 af6 af7 af8 af9 af10 af11 mz0 mz1; obtain ⟨xz0, xz1, xz2, xz3, xz4, xz5, xz6, xz7, xz8, xz9, xz10, xz11, xz12, xz13⟩ := c14 BX2.out; obtain ⟨⟨az0, az1, az2, az3, az4, az5, az6, az7, az8, az9, az10, az11⟩, af0, af1, af2, af3, af4, af5, af6, af7, af8, af9, af10, af11⟩ := c12 BA2.out; have mz0 := (blk_cell HS2.out.M 0).trans (show _ = some _ from rfl); have mz1 := (blk_cell HS2.out.M 1).trans (show _ = some _ from rfl); have lt2 := blk_lt BA2.out; have lt3 := blk_lt HS2.out.M; have lt4 := blk_lt BX2.out) | (go_at_call 39; refine (HP.out _ (HS2.out.below (below_alloc (Below.refl _ _) _))).mono ?_; rintro e w4 ⟨rfl, hs4, hk4⟩; have HK3 := Aside0.mk ((KT.below (below_alloc HW2.out _)).trans (hk4.mono (L' := stL) (by decide))); have BA3 := Aside0.mk (hk4.blk (blk_alloc BA2.out _) (by decide)); have HS3 := Aside0.mk hs4; clear hs4 hk4; obtain ⟨⟨bz0, bz1, bz2, bz3, bz4, bz5, bz6, bz7, bz8, bz9, bz10, bz11⟩, bf0, bf1, bf2, bf3, bf4, bf5, bf6, bf7, bf8, bf9, bf10, bf11⟩ := c12 BA3.out; have lt5 := blk_lt BA3.out))
  exact bodyPost_ret (ret60 rfl rfl (set12 BA3.out)) rfl (doneS HS3.out HK3.out BA3.out (by omega) (by omega) (codeA rc))
end Go.Proofs.YtclploookcjcbaaDoor.PIde
namespace Go.Proofs.YtclploookcjcbaaDoor.PIde
open Go.RowKit Go.Proofs.YtclploookcjcbaaDoorW.PrintWords Go.Proofs.YtclploookcjcbaaDoorW.PrintLast Go.Proofs.YtclploookcjcbaaDoorW.PrintMore
attribute [local go_sem] max2_int min2_int max_two min_two max_three min_three max_four min_four   -- for this text's walks alone
set_option linter.unusedVariables false
set_option linter.unusedSimpArgs false
theorem info78t : (Tryd.prog.info? 78).map (fun i => (i.zero, i.size, i.bytes)) = some (some (.agg #[.slice none 0 0, .int .i64 0]), 2, 32) := by kernel_rfl
theorem SSt.new {w0 W w4 : World} {base gM : Nat} {tv sv lv : Value} {ts ts' : List S78} {ss : List ByteArray} (h : SSt w0 W base gM tv sv ts ss) (hs : Kd.S k78 78 w4 base tt lv ts') (hb : Below base w0 w4) (hg : W.grownBy w4 tv.ownBlock) :
    SSt w0 (w4.setCell ⟨gM, 0, none⟩ lv) base gM lv sv ts' ss ∧ KT stL W (w4.setCell ⟨gM, 0, none⟩ lv) ∧ w4.heap[gM]? = some (.cells #[tv, sv] 58 (0, 0)) ∧ KT stL W w4 := by
  have hne := Kd.S_ne h.T h.M (by decide)
  have hM4 : w4.heap[gM]? = some (.cells #[tv, sv] 58 (0, 0)) := (hg.block gM (blk_lt h.M) hne).trans h.M
  have k1 : KT [78] W w4 := KT.grown hg (fun k hk => by obtain ⟨cs, hc⟩ := Kd.S_typed h.T k hk; exact ⟨cs, _, hc, by simp⟩)
  have k2 : KT [58] w4 (w4.setCell ⟨gM, 0, none⟩ lv) := KT.set hM4 (by simp) _
  exact ⟨⟨hb.setCell h.gm _, by have := Nat.le_trans h.le hg.size; simpa using this, (blk_set hM4 0 lv).trans (by simp), h.gm, S_KT hs k2 (by decide), R_KT (R_KT h.S k1 (by decide)) k2 (by decide)⟩, (k1.mono (by decide)).trans (k2.mono (by decide)), hM4, k1.mono (by decide)⟩
theorem SSt.site {w0 W w4 : World} {base gM : Nat} {tv sv lv : Value} {ts : List S78} {ss ss' : List ByteArray} (h : SSt w0 W base gM tv sv ts ss) (hs : Kd.R Kd.string 9 w4 base tt lv ss') (hb : Below base w0 w4) (hg : W.grownBy w4 sv.ownBlock) :
    SSt w0 (w4.setCell ⟨gM, 1, none⟩ lv) base gM tv lv ts ss' ∧ KT stL W (w4.setCell ⟨gM, 1, none⟩ lv) ∧ w4.heap[gM]? = some (.cells #[tv, sv] 58 (0, 0)) ∧ KT stL W w4 := by
  have hne := Kd.R_ne h.S h.M (by decide)
  have hM4 : w4.heap[gM]? = some (.cells #[tv, sv] 58 (0, 0)) := (hg.block gM (blk_lt h.M) hne).trans h.M
  have k1 : KT [9] W w4 := KT.grown hg (fun k hk => by obtain ⟨cs, hc⟩ := Kd.R_typed h.S k hk; exact ⟨cs, _, hc, by simp⟩)
  have k2 : KT [58] w4 (w4.setCell ⟨gM, 1, none⟩ lv) := KT.set hM4 (by simp) _
  exact ⟨⟨hb.setCell h.gm _, by have := Nat.le_trans h.le hg.size; simpa using this, (blk_set hM4 1 lv).trans (by simp), h.gm, S_KT (S_KT h.T k1 (by decide)) k2 (by decide), R_KT hs k2 (by decide)⟩, (k1.mono (by decide)).trans (k2.mono (by decide)), hM4, k1.mono (by decide)⟩
theorem info9 : (Tryd.prog.info? 9).map (fun i => (i.zero, i.size, i.bytes)) = some (some (.string ⟨#[]⟩), 1, 16) := by kernel_rfl
set_option maxHeartbeats 8000000 in
set_option maxRecDepth 100000 in
theorem doS_newfull (w0 w : World) (base gM : Nat) (tv sv : Value) (ts : List S78) (ss : List ByteArray) (x : S31) (hs : SSt w0 w base gM tv sv ts ss) (hn : x.f0 = 1) (hok : aB x = true) (hf : ts.length = 100) :
    Calls Tryd.prog 25 #[.pointer (some ⟨gM, 0, none⟩), .agg (ac x).toArray] w (DoneS w0 w base gM (codeA 5, ts, ss)) := by
  obtain ⟨tA, tc, rfl⟩ := Kd.S_slice hs.T
  obtain ⟨sA, sc, rfl⟩ := Kd.R_slice hs.S
  have HS := Aside0.mk hs
  obtain ⟨x0, x1, x2, x3, ⟨k0, k1, k2, k3, k4⟩, ⟨v0, v1, v2, v3, v4⟩⟩ := x
  obtain rfl : x0 = 1 := hn
  have HK : Aside0 (∀ w1, Calls Tryd.prog 38 #[.agg #[.int .i64 k0, .int .i64 k1, .float .f64 k2, .string k3, .int .i64 k4]] w1 fun e w' => e = .returned (.agg #[.int .i64 (keyC ⟨k0, k1, k2, k3, k4⟩), .int .i64 (keyV ⟨k0, k1, k2, k3, k4⟩).f0, .int .i64 (keyV ⟨k0, k1, k2, k3, k4⟩).f1, .float .f64 (keyV ⟨k0, k1, k2, k3, k4⟩).f2, .string (keyV ⟨k0, k1, k2, k3, k4⟩).f3, .int .i64 (keyV ⟨k0, k1, k2, k3, k4⟩).f4]) ∧ Below w1.heap.size w1 w') := ⟨fun w1 => specKey_calls ⟨k0, k1, k2, k3, k4⟩ w1⟩
  generalize keyC ⟨k0, k1, k2, k3, k4⟩ = kC at *
  generalize keyV ⟨k0, k1, k2, k3, k4⟩ = kV at *
  have hf1 : ((ts.length : Int) == 100) = true := by rw [hf]; rfl
  have hf2 : (ts.length == 100) = true := by rw [hf]; rfl
  clear hf
  show Calls Tryd.prog 25 #[.pointer (some ⟨gM, 0, none⟩), .agg #[.int .i64 1, .int .i64 x1, .int .i64 x2, .int .i64 x3, .int .i64 k0, .int .i64 k1, .float .f64 k2, .string k3, .int .i64 k4, .int .i64 v0, .int .i64 v1, .float .f64 v2, .string v3, .int .i64 v4]] w _
  have HB := Aside0.mk (below_alloc (below_alloc (Below.refl w.heap.size w) (.cells #[.int .i64 1, .int .i64 x1, .int .i64 x2, .int .i64 x3, .int .i64 k0, .int .i64 k1, .float .f64 k2, .string k3, .int .i64 k4, .int .i64 v0, .int .i64 v1, .float .f64 v2, .string v3, .int .i64 v4] 31)) (.cells #[.int .i64 0, .int .i64 0, .int .i64 0, .int .i64 0, .float .f64 0, .string ⟨#[]⟩, .int .i64 0, .int .i64 0, .int .i64 0, .float .f64 0, .string ⟨#[]⟩, .int .i64 0] 60))
  have BX := Aside0.mk (heap_alloc2_old w (.cells #[.int .i64 1, .int .i64 x1, .int .i64 x2, .int .i64 x3, .int .i64 k0, .int .i64 k1, .float .f64 k2, .string k3, .int .i64 k4, .int .i64 v0, .int .i64 v1, .float .f64 v2, .string v3, .int .i64 v4] 31) (.cells #[.int .i64 0, .int .i64 0, .int .i64 0, .int .i64 0, .float .f64 0, .string ⟨#[]⟩, .int .i64 0, .int .i64 0, .int .i64 0, .float .f64 0, .string ⟨#[]⟩, .int .i64 0] 60))
  have BA := Aside0.mk (heap_alloc2_new w (.cells #[.int .i64 1, .int .i64 x1, .int .i64 x2, .int .i64 x3, .int .i64 k0, .int .i64 k1, .float .f64 k2, .string k3, .int .i64 k4, .int .i64 v0, .int .i64 v1, .float .f64 v2, .string v3, .int .i64 v4] 31) (.cells #[.int .i64 0, .int .i64 0, .int .i64 0, .int .i64 0, .float .f64 0, .string ⟨#[]⟩, .int .i64 0, .int .i64 0, .int .i64 0, .float .f64 0, .string ⟨#[]⟩, .int .i64 0] 60))
  have LE := hs.le
  have lt1 := blk_lt hs.M
  have HA : Aside0 (∀ w1, Calls Tryd.prog 6 #[.agg #[.int .i64 1, .int .i64 x1, .int .i64 x2, .int .i64 x3, .int .i64 k0, .int .i64 k1, .float .f64 k2, .string k3, .int .i64 k4, .int .i64 v0, .int .i64 v1, .float .f64 v2, .string v3, .int .i64 v4]] w1 fun e w' => e = .returned (.bool true) ∧ Below w1.heap.size w1 w') := ⟨fun w1 => by have := specAct_calls ⟨1, x1, x2, x3, ⟨k0, k1, k2, k3, k4⟩, ⟨v0, v1, v2, v3, v4⟩⟩ w1; rw [hok] at this; exact this⟩
  clear hok
  have hu := Tryd.underlying29
  have hu2 := Tryd.underlying31
  have hu3 := Tryd.underlying58
  have hu4 := Tryd.underlying37
  have hu5 := Tryd.underlying60
  have hu6 := Tryd.underlying74
  have hu7 := Tryd.underlying78
  have hu8 := Tryd.underlying88
  go_enter Tryd.func25, Tryd.ntmps25
  go_wp2_with (first | (go_at_call 6; refine (HA.out _).mono ?_; rintro e w1 ⟨rfl, hb⟩; have HW := Aside0.mk (below_step HB.out hb); have BX1 := Aside0.mk (blk_below BX.out hb); have BA1 := Aside0.mk (blk_below BA.out hb); have HS1 := Aside0.mk (HS.out.below HW.out); clear HB BX BA HA hb HS; obtain ⟨xz0, xz1, xz2, xz3, xz4, xz5, xz6, xz7, xz8, xz9, xz10, xz11, xz12, xz13⟩ := c14 BX1.out; obtain ⟨⟨az0, az1, az2, az3, az4, az5, az6, az7, az8, az9, az10, az11⟩, af0, af1, af2, af3, af4, af5, af6, af7, af8, af9, af10, af11⟩ := c12 BA1.out; have mz0 := (blk_cell HS1.out.M 0).trans (show _ = some _ from rfl); have mz1 := (blk_cell HS1.out.M 1).trans (show _ = some _ from rfl); have lt2 := blk_lt BA1.out) | (go_at_call 37; refine (wants_calls _ _).mono ?_; rintro e w2 ⟨rfl, rfl⟩))
  go_quiet (fail)
  go_wp2
  go_quiet (fail)
  go_wp2_with (first | (go_at_call 38; refine (HK.out _).mono ?_; rintro e w3 ⟨rfl, hb⟩; replace hb : Below w2.heap.size w2 w3 := ⟨hb.os, hb.tape, hb.output, hb.size, hb.block⟩; have HW2 := Aside0.mk (below_step HW.out hb); have BX2 := Aside0.mk (blk_below BX1.out hb); have BA2 := Aside0.mk (blk_below BA1.out hb); have HS2 := Aside0.mk (HS1.out.below hb); clear HK hb HW HS1 BX1 BA1 xz0 xz1 xz2 xz3 xz4 xz5 xz6 xz7 xz8 xz9 xz10 xz11 xz12 xz13 az0 az1 az2 az3 az4 az5 az6 az7 az8 az9 az10 az11 af0 af1 af2 af3 af4 af5 af6 af7 af8 af9 af10 af11 mz0 mz1; obtain ⟨xz0, xz1, xz2, xz3, xz4, xz5, xz6, xz7, xz8, xz9, xz10, xz11, xz12, xz13⟩ := c14 BX2.out; obtain ⟨⟨az0, az1, az2, az3, az4, az5, az6, az7, az8, az9, az10, az11⟩, af0, af1, af2, af3, af4, af5, af6, af7, af8, af9, af10, af11⟩ := c12 BA2.out; have mz0 := (blk_cell HS2.out.M 0).trans (show _ = some _ from rfl); have mz1 := (blk_cell HS2.out.M 1).trans (show _ = some _ from rfl); have lt2 := blk_lt BA2.out; have lt3 := blk_lt HS2.out.M; have lt4 := blk_lt BX2.out))
  exact bodyPost_ret (ret60 rfl rfl (blk_alloc (set12 BA2.out) _)) rfl (by
    obtain ⟨tv, sv, h1, h2, h3⟩ := doneS HS2.out (KT.below HW2.out) BA2.out (by omega) (by omega) (codeA 5)
    exact ⟨tv, sv, h1, h2.below (below_alloc (Below.refl _ _) _), h3.trans (KT.below (below_alloc (Below.refl _ _) _))⟩)
set_option maxHeartbeats 8000000 in
set_option maxRecDepth 100000 in
theorem doS_new (w0 w : World) (base gM : Nat) (tv sv : Value) (ts : List S78) (ss : List ByteArray) (x : S31) (hs : SSt w0 w base gM tv sv ts ss) (hn : x.f0 = 1) (hok : aB x = true) (hf : ts.length < 100) :
    Calls Tryd.prog 25 #[.pointer (some ⟨gM, 0, none⟩), .agg (ac x).toArray] w (DoneS w0 w base gM (numA ts.length, ts ++ [z78], ss)) := by
  obtain ⟨tA, tc, rfl⟩ := Kd.S_slice hs.T
  obtain ⟨sA, sc, rfl⟩ := Kd.R_slice hs.S
  have HS := Aside0.mk hs
  obtain ⟨x0, x1, x2, x3, ⟨k0, k1, k2, k3, k4⟩, ⟨v0, v1, v2, v3, v4⟩⟩ := x
  obtain rfl : x0 = 1 := hn
  have HK : Aside0 (∀ w1, Calls Tryd.prog 38 #[.agg #[.int .i64 k0, .int .i64 k1, .float .f64 k2, .string k3, .int .i64 k4]] w1 fun e w' => e = .returned (.agg #[.int .i64 (keyC ⟨k0, k1, k2, k3, k4⟩), .int .i64 (keyV ⟨k0, k1, k2, k3, k4⟩).f0, .int .i64 (keyV ⟨k0, k1, k2, k3, k4⟩).f1, .float .f64 (keyV ⟨k0, k1, k2, k3, k4⟩).f2, .string (keyV ⟨k0, k1, k2, k3, k4⟩).f3, .int .i64 (keyV ⟨k0, k1, k2, k3, k4⟩).f4]) ∧ Below w1.heap.size w1 w') := ⟨fun w1 => specKey_calls ⟨k0, k1, k2, k3, k4⟩ w1⟩
  generalize keyC ⟨k0, k1, k2, k3, k4⟩ = kC at *
  generalize keyV ⟨k0, k1, k2, k3, k4⟩ = kV at *
  have hf1 : ((ts.length : Int) == 100) = false := beq_eq_false_iff_ne.mpr (by omega)
  have hf2 : (ts.length == 100) = false := beq_eq_false_iff_ne.mpr (by omega)
  have HTL := Aside0.mk hf
  have hf3 : (ts.length : Int) ≤ 100 := by omega
  clear hf
  show Calls Tryd.prog 25 #[.pointer (some ⟨gM, 0, none⟩), .agg #[.int .i64 1, .int .i64 x1, .int .i64 x2, .int .i64 x3, .int .i64 k0, .int .i64 k1, .float .f64 k2, .string k3, .int .i64 k4, .int .i64 v0, .int .i64 v1, .float .f64 v2, .string v3, .int .i64 v4]] w _
  have HB := Aside0.mk (below_alloc (below_alloc (Below.refl w.heap.size w) (.cells #[.int .i64 1, .int .i64 x1, .int .i64 x2, .int .i64 x3, .int .i64 k0, .int .i64 k1, .float .f64 k2, .string k3, .int .i64 k4, .int .i64 v0, .int .i64 v1, .float .f64 v2, .string v3, .int .i64 v4] 31)) (.cells #[.int .i64 0, .int .i64 0, .int .i64 0, .int .i64 0, .float .f64 0, .string ⟨#[]⟩, .int .i64 0, .int .i64 0, .int .i64 0, .float .f64 0, .string ⟨#[]⟩, .int .i64 0] 60))
  have BX := Aside0.mk (heap_alloc2_old w (.cells #[.int .i64 1, .int .i64 x1, .int .i64 x2, .int .i64 x3, .int .i64 k0, .int .i64 k1, .float .f64 k2, .string k3, .int .i64 k4, .int .i64 v0, .int .i64 v1, .float .f64 v2, .string v3, .int .i64 v4] 31) (.cells #[.int .i64 0, .int .i64 0, .int .i64 0, .int .i64 0, .float .f64 0, .string ⟨#[]⟩, .int .i64 0, .int .i64 0, .int .i64 0, .float .f64 0, .string ⟨#[]⟩, .int .i64 0] 60))
  have BA := Aside0.mk (heap_alloc2_new w (.cells #[.int .i64 1, .int .i64 x1, .int .i64 x2, .int .i64 x3, .int .i64 k0, .int .i64 k1, .float .f64 k2, .string k3, .int .i64 k4, .int .i64 v0, .int .i64 v1, .float .f64 v2, .string v3, .int .i64 v4] 31) (.cells #[.int .i64 0, .int .i64 0, .int .i64 0, .int .i64 0, .float .f64 0, .string ⟨#[]⟩, .int .i64 0, .int .i64 0, .int .i64 0, .float .f64 0, .string ⟨#[]⟩, .int .i64 0] 60))
  have LE := hs.le
  have lt1 := blk_lt hs.M
  have HA : Aside0 (∀ w1, Calls Tryd.prog 6 #[.agg #[.int .i64 1, .int .i64 x1, .int .i64 x2, .int .i64 x3, .int .i64 k0, .int .i64 k1, .float .f64 k2, .string k3, .int .i64 k4, .int .i64 v0, .int .i64 v1, .float .f64 v2, .string v3, .int .i64 v4]] w1 fun e w' => e = .returned (.bool true) ∧ Below w1.heap.size w1 w') := ⟨fun w1 => by have := specAct_calls ⟨1, x1, x2, x3, ⟨k0, k1, k2, k3, k4⟩, ⟨v0, v1, v2, v3, v4⟩⟩ w1; rw [hok] at this; exact this⟩
  clear hok
  have hu := Tryd.underlying29
  have hu2 := Tryd.underlying31
  have hu3 := Tryd.underlying58
  have hu4 := Tryd.underlying37
  have hu5 := Tryd.underlying60
  have hu6 := Tryd.underlying74
  have hu7 := Tryd.underlying78
  have hu8 := Tryd.underlying88
  go_enter Tryd.func25, Tryd.ntmps25
  go_wp2_with (first | (go_at_call 6; refine (HA.out _).mono ?_; rintro e w1 ⟨rfl, hb⟩; have HW := Aside0.mk (below_step HB.out hb); have BX1 := Aside0.mk (blk_below BX.out hb); have BA1 := Aside0.mk (blk_below BA.out hb); have HS1 := Aside0.mk (HS.out.below HW.out); clear HB BX BA HA hb HS; obtain ⟨xz0, xz1, xz2, xz3, xz4, xz5, xz6, xz7, xz8, xz9, xz10, xz11, xz12, xz13⟩ := c14 BX1.out; obtain ⟨⟨az0, az1, az2, az3, az4, az5, az6, az7, az8, az9, az10, az11⟩, af0, af1, af2, af3, af4, af5, af6, af7, af8, af9, af10, af11⟩ := c12 BA1.out; have mz0 := (blk_cell HS1.out.M 0).trans (show _ = some _ from rfl); have mz1 := (blk_cell HS1.out.M 1).trans (show _ = some _ from rfl); have lt2 := blk_lt BA1.out) | (go_at_call 37; refine (wants_calls _ _).mono ?_; rintro e w2 ⟨rfl, rfl⟩))
  go_quiet (fail)
  go_wp2
  go_quiet (fail)
  go_wp2_with (first | (go_at_call 38; refine (HK.out _).mono ?_; rintro e w3 ⟨rfl, hb⟩; replace hb : Below w2.heap.size w2 w3 := ⟨hb.os, hb.tape, hb.output, hb.size, hb.block⟩; have HW2 := Aside0.mk (below_step HW.out hb); have BX2 := Aside0.mk (blk_below BX1.out hb); have BA2 := Aside0.mk (blk_below BA1.out hb); have HS2 := Aside0.mk (HS1.out.below hb); clear HK hb HW HS1 BX1 BA1 xz0 xz1 xz2 xz3 xz4 xz5 xz6 xz7 xz8 xz9 xz10 xz11 xz12 xz13 az0 az1 az2 az3 az4 az5 az6 az7 az8 az9 az10 az11 af0 af1 af2 af3 af4 af5 af6 af7 af8 af9 af10 af11 mz0 mz1; obtain ⟨xz0, xz1, xz2, xz3, xz4, xz5, xz6, xz7, xz8, xz9, xz10, xz11, xz12, xz13⟩ := c14 BX2.out; obtain ⟨⟨az0, az1, az2, az3, az4, az5, az6, az7, az8, az9, az10, az11⟩, af0, af1, af2, af3, af4, af5, af6, af7, af8, af9, af10, af11⟩ := c12 BA2.out; have mz0 := (blk_cell HS2.out.M 0).trans (show _ = some _ from rfl); have mz1 := (blk_cell HS2.out.M 1).trans (show _ = some _ from rfl); have lt2 := blk_lt BA2.out; have lt3 := blk_lt HS2.out.M; have lt4 := blk_lt BX2.out) | (at_builtin; (refine Kd.S_append k78 (w0 := w0) base (by rfl) (.tmp 74) (.tmp 76) 37 78 (.agg #[.slice none 0 0, .int .i64 0]) 32 (by rfl) Tryd.underlying37 info78t (by rfl) (by decide) (by decide) (.slice tA ts.length tc) ts z78 [.slice none 0 0, .int .i64 0] tt (fun _ => False) (by rfl) (by first | rfl | simp [Act.eval, Act.put]) (k78_mkM _ _ _ z78 (Kd.R_nil k88 _ _ _ _)) (fun _ hk => hk.elim) (fun _ _ => trivial) (Kd.S_mono (HS2.out.below (below_alloc (Below.refl _ _) _)).T (fun _ _ => ⟨trivial, fun h => h⟩)) (HS2.out.below (below_alloc (Below.refl _ _) _)).B (HS2.out.below (below_alloc (Below.refl _ _) _)).le (by have := HTL.out; omega) ?_; intro lv w4 hs4 hb4 hg4 _; obtain ⟨lA, lc, le⟩ := Kd.S_slice hs4; rw [show (ts ++ [z78]).length = ts.length + 1 by simp] at le; subst le; obtain ⟨hn1, hn2, hn3, hn4⟩ := (HS2.out.below (below_alloc (Below.refl _ _) _)).new hs4 hb4 hg4; have HK3 := Aside0.mk ((KT.below (below_alloc HW2.out _)).trans hn2); have BA3 := Aside0.mk (hn2.blk (blk_alloc BA2.out _) (by decide)); have HS3 := Aside0.mk hn1; have BA4 := Aside0.mk (hn4.blk (blk_alloc BA2.out _) (by decide)); have nz1 : ¬ gM = w.heap.size + 1 := (by omega); have nz2 : ¬ w.heap.size + 1 = gM := (by omega); have ez := blk_cell hn3 0; have ez2 : w4.cell? ⟨gM, 0, none⟩ = some _ := ez.trans rfl; have ef := blk_frozen hn3 0; have el := blk_lt hn3; have ey := blk_cell HS3.out.M 0; clear hs4 hb4 hg4 hn1 hn2 hn3 hn4; obtain ⟨⟨bz0, bz1, bz2, bz3, bz4, bz5, bz6, bz7, bz8, bz9, bz10, bz11⟩, bf0, bf1, bf2, bf3, bf4, bf5, bf6, bf7, bf8, bf9, bf10, bf11⟩ := c12 BA4.out; have lt5 := blk_lt BA4.out)))
  exact bodyPost_ret (ret60 rfl rfl (set12 BA3.out)) rfl (doneS HS3.out HK3.out BA3.out (by omega) (by omega) (numA ts.length))
set_option maxHeartbeats 8000000 in
set_option maxRecDepth 100000 in
theorem doS_sitefull (w0 w : World) (base gM : Nat) (tv sv : Value) (ts : List S78) (ss : List ByteArray) (x : S31) (hs : SSt w0 w base gM tv sv ts ss) (hn : x.f0 = 7) (hok : aB x = true) (hf : ss.length = 50) :
    Calls Tryd.prog 25 #[.pointer (some ⟨gM, 0, none⟩), .agg (ac x).toArray] w (DoneS w0 w base gM (codeA 5, ts, ss)) := by
  obtain ⟨tA, tc, rfl⟩ := Kd.S_slice hs.T
  obtain ⟨sA, sc, rfl⟩ := Kd.R_slice hs.S
  have HS := Aside0.mk hs
  obtain ⟨x0, x1, x2, x3, ⟨k0, k1, k2, k3, k4⟩, ⟨v0, v1, v2, v3, v4⟩⟩ := x
  obtain rfl : x0 = 7 := hn
  have HK : Aside0 (∀ w1, Calls Tryd.prog 38 #[.agg #[.int .i64 k0, .int .i64 k1, .float .f64 k2, .string k3, .int .i64 k4]] w1 fun e w' => e = .returned (.agg #[.int .i64 (keyC ⟨k0, k1, k2, k3, k4⟩), .int .i64 (keyV ⟨k0, k1, k2, k3, k4⟩).f0, .int .i64 (keyV ⟨k0, k1, k2, k3, k4⟩).f1, .float .f64 (keyV ⟨k0, k1, k2, k3, k4⟩).f2, .string (keyV ⟨k0, k1, k2, k3, k4⟩).f3, .int .i64 (keyV ⟨k0, k1, k2, k3, k4⟩).f4]) ∧ Below w1.heap.size w1 w') := ⟨fun w1 => specKey_calls ⟨k0, k1, k2, k3, k4⟩ w1⟩
  generalize keyC ⟨k0, k1, k2, k3, k4⟩ = kC at *
  generalize keyV ⟨k0, k1, k2, k3, k4⟩ = kV at *
  have hf1 : ((ss.length : Int) == 50) = true := by rw [hf]; rfl
  have hf2 : (ss.length == 50) = true := by rw [hf]; rfl
  clear hf
  show Calls Tryd.prog 25 #[.pointer (some ⟨gM, 0, none⟩), .agg #[.int .i64 7, .int .i64 x1, .int .i64 x2, .int .i64 x3, .int .i64 k0, .int .i64 k1, .float .f64 k2, .string k3, .int .i64 k4, .int .i64 v0, .int .i64 v1, .float .f64 v2, .string v3, .int .i64 v4]] w _
  have HB := Aside0.mk (below_alloc (below_alloc (Below.refl w.heap.size w) (.cells #[.int .i64 7, .int .i64 x1, .int .i64 x2, .int .i64 x3, .int .i64 k0, .int .i64 k1, .float .f64 k2, .string k3, .int .i64 k4, .int .i64 v0, .int .i64 v1, .float .f64 v2, .string v3, .int .i64 v4] 31)) (.cells #[.int .i64 0, .int .i64 0, .int .i64 0, .int .i64 0, .float .f64 0, .string ⟨#[]⟩, .int .i64 0, .int .i64 0, .int .i64 0, .float .f64 0, .string ⟨#[]⟩, .int .i64 0] 60))
  have BX := Aside0.mk (heap_alloc2_old w (.cells #[.int .i64 7, .int .i64 x1, .int .i64 x2, .int .i64 x3, .int .i64 k0, .int .i64 k1, .float .f64 k2, .string k3, .int .i64 k4, .int .i64 v0, .int .i64 v1, .float .f64 v2, .string v3, .int .i64 v4] 31) (.cells #[.int .i64 0, .int .i64 0, .int .i64 0, .int .i64 0, .float .f64 0, .string ⟨#[]⟩, .int .i64 0, .int .i64 0, .int .i64 0, .float .f64 0, .string ⟨#[]⟩, .int .i64 0] 60))
  have BA := Aside0.mk (heap_alloc2_new w (.cells #[.int .i64 7, .int .i64 x1, .int .i64 x2, .int .i64 x3, .int .i64 k0, .int .i64 k1, .float .f64 k2, .string k3, .int .i64 k4, .int .i64 v0, .int .i64 v1, .float .f64 v2, .string v3, .int .i64 v4] 31) (.cells #[.int .i64 0, .int .i64 0, .int .i64 0, .int .i64 0, .float .f64 0, .string ⟨#[]⟩, .int .i64 0, .int .i64 0, .int .i64 0, .float .f64 0, .string ⟨#[]⟩, .int .i64 0] 60))
  have LE := hs.le
  have lt1 := blk_lt hs.M
  have HA : Aside0 (∀ w1, Calls Tryd.prog 6 #[.agg #[.int .i64 7, .int .i64 x1, .int .i64 x2, .int .i64 x3, .int .i64 k0, .int .i64 k1, .float .f64 k2, .string k3, .int .i64 k4, .int .i64 v0, .int .i64 v1, .float .f64 v2, .string v3, .int .i64 v4]] w1 fun e w' => e = .returned (.bool true) ∧ Below w1.heap.size w1 w') := ⟨fun w1 => by have := specAct_calls ⟨7, x1, x2, x3, ⟨k0, k1, k2, k3, k4⟩, ⟨v0, v1, v2, v3, v4⟩⟩ w1; rw [hok] at this; exact this⟩
  clear hok
  have hu := Tryd.underlying29
  have hu2 := Tryd.underlying31
  have hu3 := Tryd.underlying58
  have hu4 := Tryd.underlying37
  have hu5 := Tryd.underlying60
  have hu6 := Tryd.underlying74
  have hu7 := Tryd.underlying78
  have hu8 := Tryd.underlying88
  go_enter Tryd.func25, Tryd.ntmps25
  go_wp2_with (first | (go_at_call 6; refine (HA.out _).mono ?_; rintro e w1 ⟨rfl, hb⟩; have HW := Aside0.mk (below_step HB.out hb); have BX1 := Aside0.mk (blk_below BX.out hb); have BA1 := Aside0.mk (blk_below BA.out hb); have HS1 := Aside0.mk (HS.out.below HW.out); clear HB BX BA HA hb HS; obtain ⟨xz0, xz1, xz2, xz3, xz4, xz5, xz6, xz7, xz8, xz9, xz10, xz11, xz12, xz13⟩ := c14 BX1.out; obtain ⟨⟨az0, az1, az2, az3, az4, az5, az6, az7, az8, az9, az10, az11⟩, af0, af1, af2, af3, af4, af5, af6, af7, af8, af9, af10, af11⟩ := c12 BA1.out; have mz0 := (blk_cell HS1.out.M 0).trans (show _ = some _ from rfl); have mz1 := (blk_cell HS1.out.M 1).trans (show _ = some _ from rfl); have lt2 := blk_lt BA1.out) | (go_at_call 37; refine (wants_calls _ _).mono ?_; rintro e w2 ⟨rfl, rfl⟩))
  go_quiet (fail)
  go_wp2
  go_quiet (fail)
  go_wp2_with (first | (go_at_call 38; refine (HK.out _).mono ?_; rintro e w3 ⟨rfl, hb⟩; replace hb : Below w2.heap.size w2 w3 := ⟨hb.os, hb.tape, hb.output, hb.size, hb.block⟩; have HW2 := Aside0.mk (below_step HW.out hb); have BX2 := Aside0.mk (blk_below BX1.out hb); have BA2 := Aside0.mk (blk_below BA1.out hb); have HS2 := Aside0.mk (HS1.out.below hb); clear HK hb HW HS1 BX1 BA1 xz0 xz1 xz2 xz3 xz4 xz5 xz6 xz7 xz8 xz9 xz10 xz11 xz12 xz13 az0 az1 az2 az3 az4 az5 az6 az7 az8 az9 az10 az11 af0 af1 af2 af3 af4 af5 af6 af7 af8 af9 af10 af11 mz0 mz1; obtain ⟨xz0, xz1, xz2, xz3, xz4, xz5, xz6, xz7, xz8, xz9, xz10, xz11, xz12, xz13⟩ := c14 BX2.out; obtain ⟨⟨az0, az1, az2, az3, az4, az5, az6, az7, az8, az9, az10, az11⟩, af0, af1, af2, af3, af4, af5, af6, af7, af8, af9, af10, af11⟩ := c12 BA2.out; have mz0 := (blk_cell HS2.out.M 0).trans (show _ = some _ from rfl); have mz1 := (blk_cell HS2.out.M 1).trans (show _ = some _ from rfl); have lt2 := blk_lt BA2.out; have lt3 := blk_lt HS2.out.M; have lt4 := blk_lt BX2.out))
  exact bodyPost_ret (ret60 rfl rfl (blk_alloc (set12 BA2.out) _)) rfl (by
    obtain ⟨tv, sv, h1, h2, h3⟩ := doneS HS2.out (KT.below HW2.out) BA2.out (by omega) (by omega) (codeA 5)
    exact ⟨tv, sv, h1, h2.below (below_alloc (Below.refl _ _) _), h3.trans (KT.below (below_alloc (Below.refl _ _) _))⟩)
set_option maxHeartbeats 8000000 in
set_option maxRecDepth 100000 in
theorem doS_site (w0 w : World) (base gM : Nat) (tv sv : Value) (ts : List S78) (ss : List ByteArray) (x : S31) (hs : SSt w0 w base gM tv sv ts ss) (hn : x.f0 = 7) (hok : aB x = true) (hf : ss.length < 50) :
    Calls Tryd.prog 25 #[.pointer (some ⟨gM, 0, none⟩), .agg (ac x).toArray] w (DoneS w0 w base gM (numA ss.length, ts, ss ++ [x.f4.f3])) := by
  obtain ⟨tA, tc, rfl⟩ := Kd.S_slice hs.T
  obtain ⟨sA, sc, rfl⟩ := Kd.R_slice hs.S
  have HS := Aside0.mk hs
  obtain ⟨x0, x1, x2, x3, ⟨k0, k1, k2, k3, k4⟩, ⟨v0, v1, v2, v3, v4⟩⟩ := x
  obtain rfl : x0 = 7 := hn
  have HK : Aside0 (∀ w1, Calls Tryd.prog 38 #[.agg #[.int .i64 k0, .int .i64 k1, .float .f64 k2, .string k3, .int .i64 k4]] w1 fun e w' => e = .returned (.agg #[.int .i64 (keyC ⟨k0, k1, k2, k3, k4⟩), .int .i64 (keyV ⟨k0, k1, k2, k3, k4⟩).f0, .int .i64 (keyV ⟨k0, k1, k2, k3, k4⟩).f1, .float .f64 (keyV ⟨k0, k1, k2, k3, k4⟩).f2, .string (keyV ⟨k0, k1, k2, k3, k4⟩).f3, .int .i64 (keyV ⟨k0, k1, k2, k3, k4⟩).f4]) ∧ Below w1.heap.size w1 w') := ⟨fun w1 => specKey_calls ⟨k0, k1, k2, k3, k4⟩ w1⟩
  generalize keyC ⟨k0, k1, k2, k3, k4⟩ = kC at *
  generalize keyV ⟨k0, k1, k2, k3, k4⟩ = kV at *
  have hf1 : ((ss.length : Int) == 50) = false := beq_eq_false_iff_ne.mpr (by omega)
  have hf2 : (ss.length == 50) = false := beq_eq_false_iff_ne.mpr (by omega)
  have HTL := Aside0.mk hf
  have hf3 : (ss.length : Int) ≤ 50 := by omega
  clear hf
  show Calls Tryd.prog 25 #[.pointer (some ⟨gM, 0, none⟩), .agg #[.int .i64 7, .int .i64 x1, .int .i64 x2, .int .i64 x3, .int .i64 k0, .int .i64 k1, .float .f64 k2, .string k3, .int .i64 k4, .int .i64 v0, .int .i64 v1, .float .f64 v2, .string v3, .int .i64 v4]] w _
  have HB := Aside0.mk (below_alloc (below_alloc (Below.refl w.heap.size w) (.cells #[.int .i64 7, .int .i64 x1, .int .i64 x2, .int .i64 x3, .int .i64 k0, .int .i64 k1, .float .f64 k2, .string k3, .int .i64 k4, .int .i64 v0, .int .i64 v1, .float .f64 v2, .string v3, .int .i64 v4] 31)) (.cells #[.int .i64 0, .int .i64 0, .int .i64 0, .int .i64 0, .float .f64 0, .string ⟨#[]⟩, .int .i64 0, .int .i64 0, .int .i64 0, .float .f64 0, .string ⟨#[]⟩, .int .i64 0] 60))
  have BX := Aside0.mk (heap_alloc2_old w (.cells #[.int .i64 7, .int .i64 x1, .int .i64 x2, .int .i64 x3, .int .i64 k0, .int .i64 k1, .float .f64 k2, .string k3, .int .i64 k4, .int .i64 v0, .int .i64 v1, .float .f64 v2, .string v3, .int .i64 v4] 31) (.cells #[.int .i64 0, .int .i64 0, .int .i64 0, .int .i64 0, .float .f64 0, .string ⟨#[]⟩, .int .i64 0, .int .i64 0, .int .i64 0, .float .f64 0, .string ⟨#[]⟩, .int .i64 0] 60))
  have BA := Aside0.mk (heap_alloc2_new w (.cells #[.int .i64 7, .int .i64 x1, .int .i64 x2, .int .i64 x3, .int .i64 k0, .int .i64 k1, .float .f64 k2, .string k3, .int .i64 k4, .int .i64 v0, .int .i64 v1, .float .f64 v2, .string v3, .int .i64 v4] 31) (.cells #[.int .i64 0, .int .i64 0, .int .i64 0, .int .i64 0, .float .f64 0, .string ⟨#[]⟩, .int .i64 0, .int .i64 0, .int .i64 0, .float .f64 0, .string ⟨#[]⟩, .int .i64 0] 60))
  have LE := hs.le
  have lt1 := blk_lt hs.M
  have HA : Aside0 (∀ w1, Calls Tryd.prog 6 #[.agg #[.int .i64 7, .int .i64 x1, .int .i64 x2, .int .i64 x3, .int .i64 k0, .int .i64 k1, .float .f64 k2, .string k3, .int .i64 k4, .int .i64 v0, .int .i64 v1, .float .f64 v2, .string v3, .int .i64 v4]] w1 fun e w' => e = .returned (.bool true) ∧ Below w1.heap.size w1 w') := ⟨fun w1 => by have := specAct_calls ⟨7, x1, x2, x3, ⟨k0, k1, k2, k3, k4⟩, ⟨v0, v1, v2, v3, v4⟩⟩ w1; rw [hok] at this; exact this⟩
  clear hok
  have hu := Tryd.underlying29
  have hu2 := Tryd.underlying31
  have hu3 := Tryd.underlying58
  have hu4 := Tryd.underlying37
  have hu5 := Tryd.underlying60
  have hu6 := Tryd.underlying74
  have hu7 := Tryd.underlying78
  have hu8 := Tryd.underlying88
  go_enter Tryd.func25, Tryd.ntmps25
  go_wp2_with (first | (go_at_call 6; refine (HA.out _).mono ?_; rintro e w1 ⟨rfl, hb⟩; have HW := Aside0.mk (below_step HB.out hb); have BX1 := Aside0.mk (blk_below BX.out hb); have BA1 := Aside0.mk (blk_below BA.out hb); have HS1 := Aside0.mk (HS.out.below HW.out); clear HB BX BA HA hb HS; obtain ⟨xz0, xz1, xz2, xz3, xz4, xz5, xz6, xz7, xz8, xz9, xz10, xz11, xz12, xz13⟩ := c14 BX1.out; obtain ⟨⟨az0, az1, az2, az3, az4, az5, az6, az7, az8, az9, az10, az11⟩, af0, af1, af2, af3, af4, af5, af6, af7, af8, af9, af10, af11⟩ := c12 BA1.out; have mz0 := (blk_cell HS1.out.M 0).trans (show _ = some _ from rfl); have mz1 := (blk_cell HS1.out.M 1).trans (show _ = some _ from rfl); have lt2 := blk_lt BA1.out) | (go_at_call 37; refine (wants_calls _ _).mono ?_; rintro e w2 ⟨rfl, rfl⟩))
  go_quiet (fail)
  go_wp2
  go_quiet (fail)
  go_wp2_with (first | (go_at_call 38; refine (HK.out _).mono ?_; rintro e w3 ⟨rfl, hb⟩; replace hb : Below w2.heap.size w2 w3 := ⟨hb.os, hb.tape, hb.output, hb.size, hb.block⟩; have HW2 := Aside0.mk (below_step HW.out hb); have BX2 := Aside0.mk (blk_below BX1.out hb); have BA2 := Aside0.mk (blk_below BA1.out hb); have HS2 := Aside0.mk (HS1.out.below hb); clear HK hb HW HS1 BX1 BA1 xz0 xz1 xz2 xz3 xz4 xz5 xz6 xz7 xz8 xz9 xz10 xz11 xz12 xz13 az0 az1 az2 az3 az4 az5 az6 az7 az8 az9 az10 az11 af0 af1 af2 af3 af4 af5 af6 af7 af8 af9 af10 af11 mz0 mz1; obtain ⟨xz0, xz1, xz2, xz3, xz4, xz5, xz6, xz7, xz8, xz9, xz10, xz11, xz12, xz13⟩ := c14 BX2.out; obtain ⟨⟨az0, az1, az2, az3, az4, az5, az6, az7, az8, az9, az10, az11⟩, af0, af1, af2, af3, af4, af5, af6, af7, af8, af9, af10, af11⟩ := c12 BA2.out; have mz0 := (blk_cell HS2.out.M 0).trans (show _ = some _ from rfl); have mz1 := (blk_cell HS2.out.M 1).trans (show _ = some _ from rfl); have lt2 := blk_lt BA2.out; have lt3 := blk_lt HS2.out.M; have lt4 := blk_lt BX2.out))
  obtain ⟨W, eW⟩ : ∃ W, W = w3.alloc (.cells #[.int .i64 kC, .int .i64 kV.f0, .int .i64 kV.f1, .float .f64 kV.f2, .string kV.f3, .int .i64 kV.f4] 74) := ⟨_, rfl⟩
  have hbW : Below w3.heap.size w3 W := by rw [eW]; exact below_alloc (Below.refl _ _) _
  have HW3 := Aside0.mk (below_step HW2.out hbW)
  have BX3 := Aside0.mk (blk_below BX2.out hbW)
  have BA3 := Aside0.mk (blk_below BA2.out hbW)
  have HS3 := Aside0.mk (HS2.out.below hbW)
  rw [← eW]
  clear eW hbW HW2 BX2 BA2 HS2 xz0 xz1 xz2 xz3 xz4 xz5 xz6 xz7 xz8 xz9 xz10 xz11 xz12 xz13 az0 az1 az2 az3 az4 az5 az6 az7 az8 az9 az10 az11 af0 af1 af2 af3 af4 af5 af6 af7 af8 af9 af10 af11 mz0 mz1 lt2 lt3 lt4
  obtain ⟨_, _, _, _, _, _, _, xz7, _⟩ := c14 BX3.out
  have mz1 := (blk_cell HS3.out.M 1).trans (show _ = some _ from rfl)
  have mf1 := blk_frozen HS3.out.M 1
  have lt3 := blk_lt HS3.out.M
  have nz1 : ¬ gM = w.heap.size + 1 := by omega
  have nz2 : ¬ w.heap.size + 1 = gM := by omega
  have nz3 : gM ≠ w.heap.size := by omega
  have HNE := Aside0.mk (Kd.R_ne HS3.out.S HS3.out.M (by decide))
  have HNX := Aside0.mk (Kd.R_ne HS3.out.S BX3.out (by decide))
  go_region_law
    (((rw [alloc_drew]); refine Kd.R_append_step Kd.string (w0 := w0) base (by rfl) (.tmp 100) (.tmp 104) 56 9 (.string ⟨#[]⟩) 16 (by rfl) Tryd.underlying56 info9 (by rfl) (by decide) (by decide) (.slice sA ss.length sc) ss k3 [.string k3] tt (fun _ => False) (by first | rfl | simp [Act.eval, Act.put]) (by first | rfl | simp [Act.eval, Act.put]) rfl (fun _ hk => hk.elim) (fun _ _ => trivial) (Kd.R_drew HS3.out.S) (below_drew HS3.out.B) HS3.out.le (by have := HTL.out; omega) ?_; intro lv w4 hs4 hb4 hg4 _; obtain ⟨lA, lc, le⟩ := Kd.R_slice hs4; rw [show (ss ++ [k3]).length = ss.length + 1 by simp] at le; subst le; have HG3 := Aside0.mk hg4; have HS4 := Aside0.mk hs4; have HB4 := Aside0.mk hb4; have hm4 := (hg4.block gM lt3 HNE.out).trans HS3.out.M; have cz := (blk_cell hm4 1).trans (show _ = some _ from rfl); have fz := blk_frozen hm4 1; have lz := blk_lt hm4; clear hm4 hs4 hb4 hg4))
  all_goals
    obtain ⟨hn1, hn2, hn3, hn4⟩ := HS3.out.site HS4.out HB4.out (grown_drew HG3.out)
    have BA4 := Aside0.mk (hn4.blk BA3.out (by decide))
    have BA5 := Aside0.mk (hn2.blk BA3.out (by decide))
    have HS5 := Aside0.mk hn1
    have HK5 := Aside0.mk ((KT.below (L := stL) HW3.out).trans hn2)
    clear hn1 hn2 hn3 hn4
    obtain ⟨⟨bz0, bz1, bz2, bz3, bz4, bz5, bz6, bz7, bz8, bz9, bz10, bz11⟩, bf0, bf1, bf2, bf3, bf4, bf5, bf6, bf7, bf8, bf9, bf10, bf11⟩ := c12 BA4.out
    have lt5 := blk_lt BA4.out
    go_wp2
    exact bodyPost_ret (ret60 rfl rfl (set12 BA5.out)) rfl (doneS HS5.out HK5.out BA5.out (by omega) (by omega) (numA ss.length))
end Go.Proofs.YtclploookcjcbaaDoor.PIde
namespace Go.Proofs.YtclploookcjcbaaDoor.PIde
open Go.RowKit Go.Proofs.YtclploookcjcbaaDoorW.PrintWords Go.Proofs.YtclploookcjcbaaDoorW.PrintLast Go.Proofs.YtclploookcjcbaaDoorW.PrintMore
attribute [local go_sem] max2_int min2_int max_two min_two max_three min_three max_four min_four   -- for this text's walks alone
set_option linter.unusedVariables false
set_option linter.unusedSimpArgs false
set_option maxHeartbeats 8000000 in
set_option maxRecDepth 100000 in
theorem doS_field (w0 w : World) (base gM : Nat) (tv sv : Value) (ts : List S78) (ss : List ByteArray) (x : S31) (hs : SSt w0 w base gM tv sv ts ss) (hn : x.f0 = 8) (hok : aB x = true) (h0 : 0 ≤ x.f1) (hlt : x.f1 < (ts.length : Int)) (hs0 : 0 ≤ x.f2) (hslt : x.f2 < (ss.length : Int)) :
    Calls Tryd.prog 25 #[.pointer (some ⟨gM, 0, none⟩), .agg (ac x).toArray] w (DoneS w0 w base gM (⟨0, 0, z29, getV (rd_T78 ts x.f1).f0 (idxL (strK (rdOf ByteArray.empty ss x.f2)) (rd_T78 ts x.f1).f0)⟩, ts, ss)) := by
  obtain ⟨tA, tc, rfl⟩ := Kd.S_slice hs.T
  obtain ⟨gs, sc, he, -, hgs, -⟩ := Kd.R_form hs.S (by omega)
  subst he
  have HS := Aside0.mk hs
  obtain ⟨x0, x1, x2, x3, ⟨k0, k1, k2, k3, k4⟩, ⟨v0, v1, v2, v3, v4⟩⟩ := x
  obtain rfl : x0 = 8 := hn
  simp only [] at h0 hlt hs0 hslt
  have hd := decide_eq_false (show ¬ (ts.length : Int) ≤ x1 by omega)
  have hd2 := decide_eq_false (show ¬ (ss.length : Int) ≤ x2 by omega)
  have HK : Aside0 (∀ w1, Calls Tryd.prog 38 #[.agg #[.int .i64 k0, .int .i64 k1, .float .f64 k2, .string k3, .int .i64 k4]] w1 fun e w' => e = .returned (.agg #[.int .i64 (keyC ⟨k0, k1, k2, k3, k4⟩), .int .i64 (keyV ⟨k0, k1, k2, k3, k4⟩).f0, .int .i64 (keyV ⟨k0, k1, k2, k3, k4⟩).f1, .float .f64 (keyV ⟨k0, k1, k2, k3, k4⟩).f2, .string (keyV ⟨k0, k1, k2, k3, k4⟩).f3, .int .i64 (keyV ⟨k0, k1, k2, k3, k4⟩).f4]) ∧ Below w1.heap.size w1 w') := ⟨fun w1 => specKey_calls ⟨k0, k1, k2, k3, k4⟩ w1⟩
  have HG : Aside0 (∀ w1 sv, w1.heap[gM]? = some (.cells #[.slice tA ts.length tc, sv] 58 (0, 0)) → Kd.C k78 w1 tA ts.length ts → Calls Tryd.prog 40 #[.pointer (some ⟨gM, 0, none⟩), .int .i64 x1, .agg #[.int .i64 4, .int .i64 0, .float .f64 0, .string (rdOf ByteArray.empty ss x2), .int .i64 0]] w1 fun e w' =>
      e = .returned (.agg (vc (getV (rd_T78 ts x1).f0 (idxL (strK (rdOf ByteArray.empty ss x2)) (rd_T78 ts x1).f0))).toArray) ∧ Below w1.heap.size w1 w') := ⟨fun w1 sv hM hC => get_calls ts x1 (strK (rdOf ByteArray.empty ss x2)) tA tc sv gM w1 hM hC h0 hlt⟩
  have HT9 : Aside0 (∀ w1, Calls Tryd.prog 41 #[.string (rdOf ByteArray.empty ss x2)] w1 fun e w' => e = .returned (.agg #[.int .i64 4, .int .i64 0, .float .f64 0, .string (rdOf ByteArray.empty ss x2), .int .i64 0]) ∧ Below w1.heap.size w1 w') := ⟨fun w1 => str_calls _ w1⟩
  have HF9 : Aside0 (∀ w1, Kd.string.C w1 (some ⟨gs, 0, none⟩) ss.length ss → w1.cell? ⟨gs, x2.toNat, none⟩ = some (.string (rdOf ByteArray.empty ss x2))) := ⟨fun w1 hC => by have := Kd.foot_string hC x2 hs0 hslt; rw [Addr.add_lit, Nat.zero_add] at this; exact this⟩
  simp only []
  generalize getV (rd_T78 ts x1).f0 (idxL (strK (rdOf ByteArray.empty ss x2)) (rd_T78 ts x1).f0) = V at *
  generalize rdOf ByteArray.empty ss x2 = sK at *
  generalize keyC ⟨k0, k1, k2, k3, k4⟩ = kC at *
  generalize keyV ⟨k0, k1, k2, k3, k4⟩ = kV at *
  obtain ⟨V0, V1, V2, V3, V4⟩ := V
  show Calls Tryd.prog 25 #[.pointer (some ⟨gM, 0, none⟩), .agg #[.int .i64 8, .int .i64 x1, .int .i64 x2, .int .i64 x3, .int .i64 k0, .int .i64 k1, .float .f64 k2, .string k3, .int .i64 k4, .int .i64 v0, .int .i64 v1, .float .f64 v2, .string v3, .int .i64 v4]] w _
  have HB := Aside0.mk (below_alloc (below_alloc (Below.refl w.heap.size w) (.cells #[.int .i64 8, .int .i64 x1, .int .i64 x2, .int .i64 x3, .int .i64 k0, .int .i64 k1, .float .f64 k2, .string k3, .int .i64 k4, .int .i64 v0, .int .i64 v1, .float .f64 v2, .string v3, .int .i64 v4] 31)) (.cells #[.int .i64 0, .int .i64 0, .int .i64 0, .int .i64 0, .float .f64 0, .string ⟨#[]⟩, .int .i64 0, .int .i64 0, .int .i64 0, .float .f64 0, .string ⟨#[]⟩, .int .i64 0] 60))
  have BX := Aside0.mk (heap_alloc2_old w (.cells #[.int .i64 8, .int .i64 x1, .int .i64 x2, .int .i64 x3, .int .i64 k0, .int .i64 k1, .float .f64 k2, .string k3, .int .i64 k4, .int .i64 v0, .int .i64 v1, .float .f64 v2, .string v3, .int .i64 v4] 31) (.cells #[.int .i64 0, .int .i64 0, .int .i64 0, .int .i64 0, .float .f64 0, .string ⟨#[]⟩, .int .i64 0, .int .i64 0, .int .i64 0, .float .f64 0, .string ⟨#[]⟩, .int .i64 0] 60))
  have BA := Aside0.mk (heap_alloc2_new w (.cells #[.int .i64 8, .int .i64 x1, .int .i64 x2, .int .i64 x3, .int .i64 k0, .int .i64 k1, .float .f64 k2, .string k3, .int .i64 k4, .int .i64 v0, .int .i64 v1, .float .f64 v2, .string v3, .int .i64 v4] 31) (.cells #[.int .i64 0, .int .i64 0, .int .i64 0, .int .i64 0, .float .f64 0, .string ⟨#[]⟩, .int .i64 0, .int .i64 0, .int .i64 0, .float .f64 0, .string ⟨#[]⟩, .int .i64 0] 60))
  have LE := hs.le
  have lt1 := blk_lt hs.M
  have HA : Aside0 (∀ w1, Calls Tryd.prog 6 #[.agg #[.int .i64 8, .int .i64 x1, .int .i64 x2, .int .i64 x3, .int .i64 k0, .int .i64 k1, .float .f64 k2, .string k3, .int .i64 k4, .int .i64 v0, .int .i64 v1, .float .f64 v2, .string v3, .int .i64 v4]] w1 fun e w' => e = .returned (.bool true) ∧ Below w1.heap.size w1 w') := ⟨fun w1 => by have := specAct_calls ⟨8, x1, x2, x3, ⟨k0, k1, k2, k3, k4⟩, ⟨v0, v1, v2, v3, v4⟩⟩ w1; rw [hok] at this; exact this⟩
  clear hok
  have hu := Tryd.underlying29
  have hu2 := Tryd.underlying31
  have hu3 := Tryd.underlying58
  have hu4 := Tryd.underlying37
  have hu5 := Tryd.underlying60
  have hu6 := Tryd.underlying74
  have hu7 := Tryd.underlying78
  have hu8 := Tryd.underlying88
  go_enter Tryd.func25, Tryd.ntmps25
  go_wp2_with (first | (go_at_call 6; refine (HA.out _).mono ?_; rintro e w1 ⟨rfl, hb⟩; have HW := Aside0.mk (below_step HB.out hb); have BX1 := Aside0.mk (blk_below BX.out hb); have BA1 := Aside0.mk (blk_below BA.out hb); have HS1 := Aside0.mk (HS.out.below HW.out); clear HB BX BA HA hb HS; obtain ⟨xz0, xz1, xz2, xz3, xz4, xz5, xz6, xz7, xz8, xz9, xz10, xz11, xz12, xz13⟩ := c14 BX1.out; obtain ⟨⟨az0, az1, az2, az3, az4, az5, az6, az7, az8, az9, az10, az11⟩, af0, af1, af2, af3, af4, af5, af6, af7, af8, af9, af10, af11⟩ := c12 BA1.out; have mz0 := (blk_cell HS1.out.M 0).trans (show _ = some _ from rfl); have mz1 := (blk_cell HS1.out.M 1).trans (show _ = some _ from rfl); have lt2 := blk_lt BA1.out) | (go_at_call 37; refine (wants_calls _ _).mono ?_; rintro e w2 ⟨rfl, rfl⟩))
  go_quiet (fail)
  go_wp2
  go_quiet (fail)
  go_wp2_with (first | (go_at_call 38; refine (HK.out _).mono ?_; rintro e w3 ⟨rfl, hb⟩; replace hb : Below w2.heap.size w2 w3 := ⟨hb.os, hb.tape, hb.output, hb.size, hb.block⟩; have HW2 := Aside0.mk (below_step HW.out hb); have BX2 := Aside0.mk (blk_below BX1.out hb); have BA2 := Aside0.mk (blk_below BA1.out hb); have HS2 := Aside0.mk (HS1.out.below hb); clear HK hb HW HS1 BX1 BA1 xz0 xz1 xz2 xz3 xz4 xz5 xz6 xz7 xz8 xz9 xz10 xz11 xz12 xz13 az0 az1 az2 az3 az4 az5 az6 az7 az8 az9 az10 az11 af0 af1 af2 af3 af4 af5 af6 af7 af8 af9 af10 af11 mz0 mz1; obtain ⟨xz0, xz1, xz2, xz3, xz4, xz5, xz6, xz7, xz8, xz9, xz10, xz11, xz12, xz13⟩ := c14 BX2.out; obtain ⟨⟨az0, az1, az2, az3, az4, az5, az6, az7, az8, az9, az10, az11⟩, af0, af1, af2, af3, af4, af5, af6, af7, af8, af9, af10, af11⟩ := c12 BA2.out; have mz0 := (blk_cell HS2.out.M 0).trans (show _ = some _ from rfl); have mz1 := (blk_cell HS2.out.M 1).trans (show _ = some _ from rfl); have lt2 := blk_lt BA2.out; have lt3 := blk_lt HS2.out.M; have lt4 := blk_lt BX2.out))
  obtain ⟨W, eW⟩ : ∃ W, W = w3.alloc (.cells #[.int .i64 kC, .int .i64 kV.f0, .int .i64 kV.f1, .float .f64 kV.f2, .string kV.f3, .int .i64 kV.f4] 74) := ⟨_, rfl⟩
  have hbW : Below w3.heap.size w3 W := by rw [eW]; exact below_alloc (Below.refl _ _) _
  have HW3 := Aside0.mk (below_step HW2.out hbW)
  have BX3 := Aside0.mk (blk_below BX2.out hbW)
  have BA3 := Aside0.mk (blk_below BA2.out hbW)
  have HS3 := Aside0.mk (HS2.out.below hbW)
  rw [← eW]
  clear eW hbW HW2 BX2 BA2 HS2 xz0 xz1 xz2 xz3 xz4 xz5 xz6 xz7 xz8 xz9 xz10 xz11 xz12 xz13 az0 az1 az2 az3 az4 az5 az6 az7 az8 az9 az10 az11 af0 af1 af2 af3 af4 af5 af6 af7 af8 af9 af10 af11 mz0 mz1 lt2 lt3 lt4
  obtain ⟨_, s1, s3, _⟩ := c14 BX3.out
  have s2 := (blk_cell HS3.out.M 1).trans (show _ = some _ from rfl)
  have s4 := HF9.out W (Kd.R_reads' HS3.out.S).2.2
  obtain ⟨⟨bz0, bz1, bz2, bz3, bz4, bz5, bz6, bz7, bz8, bz9, bz10, bz11⟩, bf0, bf1, bf2, bf3, bf4, bf5, bf6, bf7, bf8, bf9, bf10, bf11⟩ := c12 BA3.out
  have lt3 := blk_lt HS3.out.M
  have lt4 := blk_lt BA3.out
  have lt5 := blk_lt BX3.out
  have lt6 : gs < W.heap.size := by have := HW3.out.size; omega
  have nz1 : w.heap.size + 1 ≠ gM := by omega
  have nz2 : w.heap.size + 1 ≠ gs := by omega
  have nz3 : w.heap.size + 1 ≠ w.heap.size := by omega
  go_region_held3 (fun w' => w'.cell? ⟨w.heap.size, 1, none⟩ = some (.int .i64 x1) ∧ w'.cell? ⟨gM, 1, none⟩ = some (.slice (some ⟨gs, 0, none⟩) ss.length sc) ∧ w'.cell? ⟨w.heap.size, 2, none⟩ = some (.int .i64 x2) ∧ w'.cell? ⟨gs, x2.toNat, none⟩ = some (.string sK))
    (first | (go_keep; done) | (refine ⟨?_, ?_, ?_, ?_⟩ <;> assumption))
    (first | (go_at_call 41; (refine (HT9.out _).mono ?_; rintro e w5 ⟨rfl, hb⟩; replace hb := undrew hb; have HB5 := Aside0.mk hb; have t1 := (hb.cell lt5).trans s1; have t2 := (hb.cell lt3).trans s2; have t3 := (hb.cell lt5).trans s3; have t4 := (hb.cell lt6).trans s4; clear hb)) | (go_at_call 40; (refine (HG.out _ _ (blk_below HS3.out.M HB5.out) (Kd.C_below (Kd.S_reads' HS3.out.T).2.2 HB5.out)).mono ?_; rintro e w6 ⟨rfl, hb⟩; replace hb := below_step HB5.out hb; have HB6 := Aside0.mk hb; have u1 := (hb.cell lt5).trans s1; have u2 := (hb.cell lt3).trans s2; have u3 := (hb.cell lt5).trans s3; have u4 := (hb.cell lt6).trans s4; have BA6 := Aside0.mk (blk_below BA3.out hb); clear hb; obtain ⟨⟨bz0, bz1, bz2, bz3, bz4, bz5, bz6, bz7, bz8, bz9, bz10, bz11⟩, bf0, bf1, bf2, bf3, bf4, bf5, bf6, bf7, bf8, bf9, bf10, bf11⟩ := c12 BA6.out; have lt7 := blk_lt BA6.out; unfold vc; simp only [])))
  go_wp2
  exact bodyPost_ret (ret60 rfl rfl (set12 BA6.out)) rfl (doneS (HS3.out.below HB6.out) (KT.below (below_step HW3.out HB6.out)) BA6.out (by omega) (by omega) ⟨0, 0, z29, ⟨V0, V1, V2, V3, V4⟩⟩)
set_option maxHeartbeats 8000000 in
set_option maxRecDepth 100000 in
theorem doS_setfield (w0 w : World) (base gM : Nat) (tv sv : Value) (ts : List S78) (ss : List ByteArray) (x : S31) (hs : SSt w0 w base gM tv sv ts ss) (hn : x.f0 = 9) (hok : aB x = true) (h0 : 0 ≤ x.f1) (hlt : x.f1 < (ts.length : Int)) (hs0 : 0 ≤ x.f2) (hslt : x.f2 < (ss.length : Int)) (h5 : (rd_T78 ts x.f1).f0.length ≤ 500) (ht0 : 0 ≤ (rd_T78 ts x.f1).f1) (ht1 : (rd_T78 ts x.f1).f1 ≤ 1000000000000) :
    Calls Tryd.prog 25 #[.pointer (some ⟨gM, 0, none⟩), .agg (ac x).toArray] w (DoneS w0 w base gM (codeA (putA (rd_T78 ts x.f1) (idxL (strK (rdOf ByteArray.empty ss x.f2)) (rd_T78 ts x.f1).f0) (strK (rdOf ByteArray.empty ss x.f2)) x.f5).1, ts.set x.f1.toNat (putA (rd_T78 ts x.f1) (idxL (strK (rdOf ByteArray.empty ss x.f2)) (rd_T78 ts x.f1).f0) (strK (rdOf ByteArray.empty ss x.f2)) x.f5).2, ss)) := by
  obtain ⟨g, tc, he, -, -, -⟩ := Kd.S_form hs.T (by omega)
  subst he
  obtain ⟨gs, sc, he, -, hgs, -⟩ := Kd.R_form hs.S (by omega)
  subst he
  have HS := Aside0.mk hs
  obtain ⟨x0, x1, x2, x3, ⟨k0, k1, k2, k3, k4⟩, ⟨v0, v1, v2, v3, v4⟩⟩ := x
  obtain rfl : x0 = 9 := hn
  simp only [] at h0 hlt hs0 hslt
  have hd := decide_eq_false (show ¬ (ts.length : Int) ≤ x1 by omega)
  have hd2 := decide_eq_false (show ¬ (ss.length : Int) ≤ x2 by omega)
  have HK : Aside0 (∀ w1, Calls Tryd.prog 38 #[.agg #[.int .i64 k0, .int .i64 k1, .float .f64 k2, .string k3, .int .i64 k4]] w1 fun e w' => e = .returned (.agg #[.int .i64 (keyC ⟨k0, k1, k2, k3, k4⟩), .int .i64 (keyV ⟨k0, k1, k2, k3, k4⟩).f0, .int .i64 (keyV ⟨k0, k1, k2, k3, k4⟩).f1, .float .f64 (keyV ⟨k0, k1, k2, k3, k4⟩).f2, .string (keyV ⟨k0, k1, k2, k3, k4⟩).f3, .int .i64 (keyV ⟨k0, k1, k2, k3, k4⟩).f4]) ∧ Below w1.heap.size w1 w') := ⟨fun w1 => specKey_calls ⟨k0, k1, k2, k3, k4⟩ w1⟩
  have HP : Aside0 (∀ w1, SSt w0 w1 base gM (.slice (some ⟨g, 0, none⟩) ts.length tc) (.slice (some ⟨gs, 0, none⟩) ss.length sc) ts ss → Calls Tryd.prog 39 #[.pointer (some ⟨gM, 0, none⟩), .int .i64 x1, .agg #[.int .i64 4, .int .i64 0, .float .f64 0, .string (rdOf ByteArray.empty ss x2), .int .i64 0], .agg #[.int .i64 v0, .int .i64 v1, .float .f64 v2, .string v3, .int .i64 v4]] w1 fun e w' =>
      e = .returned (.int .i64 (putA (rd_T78 ts x1) (idxL (strK (rdOf ByteArray.empty ss x2)) (rd_T78 ts x1).f0) (strK (rdOf ByteArray.empty ss x2)) ⟨v0, v1, v2, v3, v4⟩).1) ∧ SSt w0 w' base gM (.slice (some ⟨g, 0, none⟩) ts.length tc) (.slice (some ⟨gs, 0, none⟩) ss.length sc) (ts.set x1.toNat (putA (rd_T78 ts x1) (idxL (strK (rdOf ByteArray.empty ss x2)) (rd_T78 ts x1).f0) (strK (rdOf ByteArray.empty ss x2)) ⟨v0, v1, v2, v3, v4⟩).2) ss ∧ KT [78, 88] w1 w') := ⟨fun w1 hs1 => put_st hs1 x1 (strK (rdOf ByteArray.empty ss x2)) ⟨v0, v1, v2, v3, v4⟩ h0 hlt h5 ht0 ht1⟩
  have HT9 : Aside0 (∀ w1, Calls Tryd.prog 41 #[.string (rdOf ByteArray.empty ss x2)] w1 fun e w' => e = .returned (.agg #[.int .i64 4, .int .i64 0, .float .f64 0, .string (rdOf ByteArray.empty ss x2), .int .i64 0]) ∧ Below w1.heap.size w1 w') := ⟨fun w1 => str_calls _ w1⟩
  have HF9 : Aside0 (∀ w1, Kd.string.C w1 (some ⟨gs, 0, none⟩) ss.length ss → w1.cell? ⟨gs, x2.toNat, none⟩ = some (.string (rdOf ByteArray.empty ss x2))) := ⟨fun w1 hC => by have := Kd.foot_string hC x2 hs0 hslt; rw [Addr.add_lit, Nat.zero_add] at this; exact this⟩
  clear h5 ht0 ht1
  simp only []
  generalize putA (rd_T78 ts x1) (idxL (strK (rdOf ByteArray.empty ss x2)) (rd_T78 ts x1).f0) (strK (rdOf ByteArray.empty ss x2)) ⟨v0, v1, v2, v3, v4⟩ = R at *
  obtain ⟨rc, rT⟩ := R
  generalize rdOf ByteArray.empty ss x2 = sK at *
  generalize keyC ⟨k0, k1, k2, k3, k4⟩ = kC at *
  generalize keyV ⟨k0, k1, k2, k3, k4⟩ = kV at *
  simp only [] at *
  show Calls Tryd.prog 25 #[.pointer (some ⟨gM, 0, none⟩), .agg #[.int .i64 9, .int .i64 x1, .int .i64 x2, .int .i64 x3, .int .i64 k0, .int .i64 k1, .float .f64 k2, .string k3, .int .i64 k4, .int .i64 v0, .int .i64 v1, .float .f64 v2, .string v3, .int .i64 v4]] w _
  have HB := Aside0.mk (below_alloc (below_alloc (Below.refl w.heap.size w) (.cells #[.int .i64 9, .int .i64 x1, .int .i64 x2, .int .i64 x3, .int .i64 k0, .int .i64 k1, .float .f64 k2, .string k3, .int .i64 k4, .int .i64 v0, .int .i64 v1, .float .f64 v2, .string v3, .int .i64 v4] 31)) (.cells #[.int .i64 0, .int .i64 0, .int .i64 0, .int .i64 0, .float .f64 0, .string ⟨#[]⟩, .int .i64 0, .int .i64 0, .int .i64 0, .float .f64 0, .string ⟨#[]⟩, .int .i64 0] 60))
  have BX := Aside0.mk (heap_alloc2_old w (.cells #[.int .i64 9, .int .i64 x1, .int .i64 x2, .int .i64 x3, .int .i64 k0, .int .i64 k1, .float .f64 k2, .string k3, .int .i64 k4, .int .i64 v0, .int .i64 v1, .float .f64 v2, .string v3, .int .i64 v4] 31) (.cells #[.int .i64 0, .int .i64 0, .int .i64 0, .int .i64 0, .float .f64 0, .string ⟨#[]⟩, .int .i64 0, .int .i64 0, .int .i64 0, .float .f64 0, .string ⟨#[]⟩, .int .i64 0] 60))
  have BA := Aside0.mk (heap_alloc2_new w (.cells #[.int .i64 9, .int .i64 x1, .int .i64 x2, .int .i64 x3, .int .i64 k0, .int .i64 k1, .float .f64 k2, .string k3, .int .i64 k4, .int .i64 v0, .int .i64 v1, .float .f64 v2, .string v3, .int .i64 v4] 31) (.cells #[.int .i64 0, .int .i64 0, .int .i64 0, .int .i64 0, .float .f64 0, .string ⟨#[]⟩, .int .i64 0, .int .i64 0, .int .i64 0, .float .f64 0, .string ⟨#[]⟩, .int .i64 0] 60))
  have LE := hs.le
  have lt1 := blk_lt hs.M
  have HA : Aside0 (∀ w1, Calls Tryd.prog 6 #[.agg #[.int .i64 9, .int .i64 x1, .int .i64 x2, .int .i64 x3, .int .i64 k0, .int .i64 k1, .float .f64 k2, .string k3, .int .i64 k4, .int .i64 v0, .int .i64 v1, .float .f64 v2, .string v3, .int .i64 v4]] w1 fun e w' => e = .returned (.bool true) ∧ Below w1.heap.size w1 w') := ⟨fun w1 => by have := specAct_calls ⟨9, x1, x2, x3, ⟨k0, k1, k2, k3, k4⟩, ⟨v0, v1, v2, v3, v4⟩⟩ w1; rw [hok] at this; exact this⟩
  clear hok
  have hu := Tryd.underlying29
  have hu2 := Tryd.underlying31
  have hu3 := Tryd.underlying58
  have hu4 := Tryd.underlying37
  have hu5 := Tryd.underlying60
  have hu6 := Tryd.underlying74
  have hu7 := Tryd.underlying78
  have hu8 := Tryd.underlying88
  go_enter Tryd.func25, Tryd.ntmps25
  go_wp2_with (first | (go_at_call 6; refine (HA.out _).mono ?_; rintro e w1 ⟨rfl, hb⟩; have HW := Aside0.mk (below_step HB.out hb); have BX1 := Aside0.mk (blk_below BX.out hb); have BA1 := Aside0.mk (blk_below BA.out hb); have HS1 := Aside0.mk (HS.out.below HW.out); clear HB BX BA HA hb HS; obtain ⟨xz0, xz1, xz2, xz3, xz4, xz5, xz6, xz7, xz8, xz9, xz10, xz11, xz12, xz13⟩ := c14 BX1.out; obtain ⟨⟨az0, az1, az2, az3, az4, az5, az6, az7, az8, az9, az10, az11⟩, af0, af1, af2, af3, af4, af5, af6, af7, af8, af9, af10, af11⟩ := c12 BA1.out; have mz0 := (blk_cell HS1.out.M 0).trans (show _ = some _ from rfl); have mz1 := (blk_cell HS1.out.M 1).trans (show _ = some _ from rfl); have lt2 := blk_lt BA1.out) | (go_at_call 37; refine (wants_calls _ _).mono ?_; rintro e w2 ⟨rfl, rfl⟩))
  go_quiet (fail)
  go_wp2
  go_quiet (fail)
  go_wp2_with (first | (go_at_call 38; refine (HK.out _).mono ?_; rintro e w3 ⟨rfl, hb⟩; replace hb : Below w2.heap.size w2 w3 := ⟨hb.os, hb.tape, hb.output, hb.size, hb.block⟩; have HW2 := Aside0.mk (below_step HW.out hb); have BX2 := Aside0.mk (blk_below BX1.out hb); have BA2 := Aside0.mk (blk_below BA1.out hb); have HS2 := Aside0.mk (HS1.out.below hb); clear HK hb HW HS1 BX1 BA1 xz0 xz1 xz2 xz3 xz4 xz5 xz6 xz7 xz8 xz9 xz10 xz11 xz12 xz13 az0 az1 az2 az3 az4 az5 az6 az7 az8 az9 az10 az11 af0 af1 af2 af3 af4 af5 af6 af7 af8 af9 af10 af11 mz0 mz1; obtain ⟨xz0, xz1, xz2, xz3, xz4, xz5, xz6, xz7, xz8, xz9, xz10, xz11, xz12, xz13⟩ := c14 BX2.out; obtain ⟨⟨az0, az1, az2, az3, az4, az5, az6, az7, az8, az9, az10, az11⟩, af0, af1, af2, af3, af4, af5, af6, af7, af8, af9, af10, af11⟩ := c12 BA2.out; have mz0 := (blk_cell HS2.out.M 0).trans (show _ = some _ from rfl); have mz1 := (blk_cell HS2.out.M 1).trans (show _ = some _ from rfl); have lt2 := blk_lt BA2.out; have lt3 := blk_lt HS2.out.M; have lt4 := blk_lt BX2.out))
  obtain ⟨W, eW⟩ : ∃ W, W = w3.alloc (.cells #[.int .i64 kC, .int .i64 kV.f0, .int .i64 kV.f1, .float .f64 kV.f2, .string kV.f3, .int .i64 kV.f4] 74) := ⟨_, rfl⟩
  have hbW : Below w3.heap.size w3 W := by rw [eW]; exact below_alloc (Below.refl _ _) _
  have HW3 := Aside0.mk (below_step HW2.out hbW)
  have BX3 := Aside0.mk (blk_below BX2.out hbW)
  have BA3 := Aside0.mk (blk_below BA2.out hbW)
  have HS3 := Aside0.mk (HS2.out.below hbW)
  rw [← eW]
  clear eW hbW HW2 BX2 BA2 HS2 xz0 xz1 xz2 xz3 xz4 xz5 xz6 xz7 xz8 xz9 xz10 xz11 xz12 xz13 az0 az1 az2 az3 az4 az5 az6 az7 az8 az9 az10 az11 af0 af1 af2 af3 af4 af5 af6 af7 af8 af9 af10 af11 mz0 mz1 lt2 lt3 lt4
  obtain ⟨_, s1, s3, _, _, _, _, _, _, q1, q2, q3, q4, q5⟩ := c14 BX3.out
  have s2 := (blk_cell HS3.out.M 1).trans (show _ = some _ from rfl)
  have s4 := HF9.out W (Kd.R_reads' HS3.out.S).2.2
  have lt3 := blk_lt HS3.out.M
  have lt4 := blk_lt BA3.out
  have lt5 := blk_lt BX3.out
  have lt6 : gs < W.heap.size := by have := HW3.out.size; omega
  have nz1 : w.heap.size + 1 ≠ gM := by omega
  have nz2 : w.heap.size + 1 ≠ gs := by omega
  have nz3 : w.heap.size + 1 ≠ w.heap.size := by omega
  go_region_held3 (fun w' => w'.cell? ⟨w.heap.size, 1, none⟩ = some (.int .i64 x1) ∧ w'.cell? ⟨gM, 1, none⟩ = some (.slice (some ⟨gs, 0, none⟩) ss.length sc) ∧ w'.cell? ⟨w.heap.size, 2, none⟩ = some (.int .i64 x2) ∧ w'.cell? ⟨gs, x2.toNat, none⟩ = some (.string sK) ∧ w'.cell? ⟨w.heap.size, 9, none⟩ = some (.int .i64 v0) ∧ w'.cell? ⟨w.heap.size, 10, none⟩ = some (.int .i64 v1) ∧ w'.cell? ⟨w.heap.size, 11, none⟩ = some (.float .f64 v2) ∧ w'.cell? ⟨w.heap.size, 12, none⟩ = some (.string v3) ∧ w'.cell? ⟨w.heap.size, 13, none⟩ = some (.int .i64 v4))
    (first | (go_keep; done) | (refine ⟨?_, ?_, ?_, ?_, ?_, ?_, ?_, ?_, ?_⟩ <;> assumption))
    (first | (go_at_call 41; (refine (HT9.out _).mono ?_; rintro e w5 ⟨rfl, hb⟩; replace hb := undrew hb; have HB5 := Aside0.mk hb; have t1 := (hb.cell lt5).trans s1; have t2 := (hb.cell lt3).trans s2; have t3 := (hb.cell lt5).trans s3; have t4 := (hb.cell lt6).trans s4; have t5 := (hb.cell lt5).trans q1; have t6 := (hb.cell lt5).trans q2; have t7 := (hb.cell lt5).trans q3; have t8 := (hb.cell lt5).trans q4; have t9 := (hb.cell lt5).trans q5; clear hb)) | (go_at_call 39; (refine (HP.out _ (HS3.out.below HB5.out)).mono ?_; rintro e w6 ⟨rfl, hs6, hk6⟩; have HS6 := Aside0.mk hs6; have HK6 := Aside0.mk ((KT.below (below_step HW3.out HB5.out)).trans (hk6.mono (L' := stL) (by decide))); have BA6 := Aside0.mk (hk6.blk (blk_below BA3.out HB5.out) (by decide)); obtain ⟨_, u1, u3, _, _, _, _, _, _, u5, u6, u7, u8, u9⟩ := c14 (hk6.blk (blk_below BX3.out HB5.out) (by decide)); have u2 := (blk_cell hs6.M 1).trans (show _ = some _ from rfl); have u4 := HF9.out w6 (Kd.R_reads' hs6.S).2.2; clear hs6 hk6; obtain ⟨⟨bz0, bz1, bz2, bz3, bz4, bz5, bz6, bz7, bz8, bz9, bz10, bz11⟩, bf0, bf1, bf2, bf3, bf4, bf5, bf6, bf7, bf8, bf9, bf10, bf11⟩ := c12 BA6.out; have lt7 := blk_lt BA6.out)))
  go_wp2
  exact bodyPost_ret (ret60 rfl rfl (set12 BA6.out)) rfl (doneS HS6.out HK6.out BA6.out (by omega) (by omega) (codeA rc))
end Go.Proofs.YtclploookcjcbaaDoor.PIde
namespace Go.Proofs.YtclploookcjcbaaDoor.PIde
open Go.RowKit Go.Proofs.YtclploookcjcbaaDoorW.PrintWords Go.Proofs.YtclploookcjcbaaDoorW.PrintLast Go.Proofs.YtclploookcjcbaaDoorW.PrintMore
set_option linter.unusedVariables false
set_option linter.unusedSimpArgs false
/-- The key that an act speaks of. -/
def keyM (ss : List ByteArray) (x : S31) : S29 := if x.f0 = 8 ∨ x.f0 = 9 then strK (rdOf ByteArray.empty ss x.f2) else keyV x.f4
/-- One step: the answer, the tables and the sites' keys behind it. ix: how a key is found. -/
def stepM (ix : S29 → List S88 → Int) (ts : List S78) (ss : List ByteArray) (x : S31) : S60 × List S78 × List ByteArray :=
  if aB x = false then (codeA 1, ts, ss)
  else if (x.f0 ≠ 1 ∧ x.f0 ≠ 7) ∧ (ts.length : Int) ≤ x.f1 then (codeA 2, ts, ss)
  else if (x.f0 = 8 ∨ x.f0 = 9) ∧ (ss.length : Int) ≤ x.f2 then (codeA 3, ts, ss)
  else if (x.f0 = 2 ∨ x.f0 = 3) ∧ ¬ keyC x.f4 = 0 then (codeA 4, ts, ss)
  else if x.f0 = 1 then if ts.length = 100 then (codeA 5, ts, ss) else (numA ts.length, ts ++ [z78], ss)
  else if x.f0 = 7 then if ss.length = 50 then (codeA 5, ts, ss) else (numA ss.length, ts, ss ++ [x.f4.f3])
  else if x.f0 = 2 ∨ x.f0 = 9 then
    (codeA (putA (rd_T78 ts x.f1) (ix (keyM ss x) (rd_T78 ts x.f1).f0) (keyM ss x) x.f5).1, ts.set x.f1.toNat (putA (rd_T78 ts x.f1) (ix (keyM ss x) (rd_T78 ts x.f1).f0) (keyM ss x) x.f5).2, ss)
  else if x.f0 = 3 ∨ x.f0 = 8 then (⟨0, 0, z29, getV (rd_T78 ts x.f1).f0 (ix (keyM ss x) (rd_T78 ts x.f1).f0)⟩, ts, ss)
  else (askA x (rd_T78 ts x.f1).f0, ts, ss)
theorem aB_parts {x : S31} (h : aB x = true) : 0 ≤ x.f1 ∧ 0 ≤ x.f2 ∧ 0 ≤ x.f3 ∧ (x.f0 = 1 ∨ x.f0 = 2 ∨ x.f0 = 3 ∨ x.f0 = 4 ∨ x.f0 = 5 ∨ x.f0 = 6 ∨ x.f0 = 7 ∨ x.f0 = 8 ∨ x.f0 = 9) := by
  unfold aB inR at h
  simp only [Bool.and_eq_true, decide_eq_true_eq] at h
  obtain ⟨⟨h1, _⟩, ⟨h2, _⟩, ⟨h3, _⟩, _, _, h6⟩ := h
  refine ⟨h1, h2, h3, ?_⟩
  unfold tB at h6
  repeat (split at h6; · simp [*])
  cases h6
/-- A table is within the play's bounds. -/
def TOk (T : S78) : Prop := T.f0.length ≤ 500 ∧ 0 ≤ T.f1 ∧ T.f1 ≤ 1000000000000
theorem rd_ok {ts : List S78} (h : ∀ T ∈ ts, TOk T) (t : Int) (h0 : 0 ≤ t) (h1 : t < ts.length) : TOk (rd_T78 ts t) := by
  have hl : t.toNat < ts.length := by omega
  have : rd_T78 ts t = ts[t.toNat] := by simp [rd_T78, List.getD_eq_getElem?_getD, hl]
  rw [this]
  exact h _ (List.getElem_mem hl)
theorem doS_calls (w0 w : World) (base gM : Nat) (tv sv : Value) (ts : List S78) (ss : List ByteArray) (x : S31) (hs : SSt w0 w base gM tv sv ts ss) (hts : ts.length ≤ 100) (hss : ss.length ≤ 50) (hT : ∀ T ∈ ts, TOk T) :
    Calls Tryd.prog 25 #[.pointer (some ⟨gM, 0, none⟩), .agg (ac x).toArray] w (DoneS w0 w base gM (stepM idxL ts ss x)) := by
  cases hok : aB x
  · rw [show stepM idxL ts ss x = (codeA 1, ts, ss) from if_pos hok]
    exact doS_bad1 w0 w base gM tv sv ts ss x hs hok
  obtain ⟨h1, h2, h3, h0⟩ := aB_parts hok
  have hok' : ¬ aB x = false := by rw [hok]; simp
  by_cases c2 : (x.f0 ≠ 1 ∧ x.f0 ≠ 7) ∧ (ts.length : Int) ≤ x.f1
  · rw [show stepM idxL ts ss x = (codeA 2, ts, ss) from (if_neg hok').trans (if_pos c2)]
    exact doS_bad2 w0 w base gM tv sv ts ss x hs hok (by simp [c2.1]) c2.2
  by_cases c3 : (x.f0 = 8 ∨ x.f0 = 9) ∧ (ss.length : Int) ≤ x.f2
  · rw [show stepM idxL ts ss x = (codeA 3, ts, ss) from (if_neg hok').trans ((if_neg c2).trans (if_pos c3))]
    exact doS_bad3 w0 w base gM tv sv ts ss x hs hok (by simpa using c3.1) (by omega) c3.2
  by_cases c4 : (x.f0 = 2 ∨ x.f0 = 3) ∧ ¬ keyC x.f4 = 0
  · rw [show stepM idxL ts ss x = (codeA 4, ts, ss) from (if_neg hok').trans ((if_neg c2).trans ((if_neg c3).trans (if_pos c4)))]
    rcases c4.1 with hn | hn
    · exact doS_bad4_2 w0 w base gM tv sv ts ss x hs hn hok (by omega) c4.2
    · exact doS_bad4_3 w0 w base gM tv sv ts ss x hs hn hok (by omega) c4.2
  rw [show stepM idxL ts ss x = _ from (if_neg hok').trans ((if_neg c2).trans ((if_neg c3).trans (if_neg c4)))]
  rcases h0 with hn | hn | hn | hn | hn | hn | hn | hn | hn
  · rw [if_pos hn]
    split
    · exact doS_newfull w0 w base gM tv sv ts ss x hs hn hok (by assumption)
    · exact doS_new w0 w base gM tv sv ts ss x hs hn hok (by omega)
  · have hl : x.f1 < (ts.length : Int) := by omega
    obtain ⟨t1, t2, t3⟩ := rd_ok hT x.f1 h1 hl
    rw [if_neg (by omega), if_neg (by omega), if_pos (by omega), show keyM ss x = keyV x.f4 from if_neg (by omega)]
    exact doS_put w0 w base gM tv sv ts ss x hs hn hok h1 hl (by have : ¬ ¬ keyC x.f4 = 0 := fun h => c4 ⟨.inl hn, h⟩; omega) t1 t2 t3
  · have hl : x.f1 < (ts.length : Int) := by omega
    rw [if_neg (by omega), if_neg (by omega), if_neg (by omega), if_pos (by omega), show keyM ss x = keyV x.f4 from if_neg (by omega)]
    exact doS_get w0 w base gM tv sv ts ss x hs hn hok h1 hl (by have : ¬ ¬ keyC x.f4 = 0 := fun h => c4 ⟨.inr hn, h⟩; omega)
  · rw [if_neg (by omega), if_neg (by omega), if_neg (by omega), if_neg (by omega)]
    exact doS_after w0 w base gM tv sv ts ss x hs hn hok h1 (by omega) h3
  · have hl : x.f1 < (ts.length : Int) := by omega
    rw [if_neg (by omega), if_neg (by omega), if_neg (by omega), if_neg (by omega)]
    exact doS_len w0 w base gM tv sv ts ss x hs hn hok h1 hl (by have := (rd_ok hT x.f1 h1 hl).1; omega)
  · rw [if_neg (by omega), if_neg (by omega), if_neg (by omega), if_neg (by omega)]
    exact doS_count w0 w base gM tv sv ts ss x hs hn hok h1 (by omega)
  · rw [if_neg (by omega), if_pos hn]
    split
    · exact doS_sitefull w0 w base gM tv sv ts ss x hs hn hok (by assumption)
    · exact doS_site w0 w base gM tv sv ts ss x hs hn hok (by omega)
  · have hl : x.f1 < (ts.length : Int) := by omega
    rw [if_neg (by omega), if_neg (by omega), if_neg (by omega), if_pos (by omega), show keyM ss x = strK (rdOf ByteArray.empty ss x.f2) from if_pos (.inl hn)]
    exact doS_field w0 w base gM tv sv ts ss x hs hn hok h1 hl h2 (by omega)
  · have hl : x.f1 < (ts.length : Int) := by omega
    obtain ⟨t1, t2, t3⟩ := rd_ok hT x.f1 h1 hl
    rw [if_neg (by omega), if_neg (by omega), if_pos (by omega), show keyM ss x = strK (rdOf ByteArray.empty ss x.f2) from if_pos (.inr hn)]
    exact doS_setfield w0 w base gM tv sv ts ss x hs hn hok h1 hl h2 (by omega) t1 t2 t3
end Go.Proofs.YtclploookcjcbaaDoor.PIde
namespace Go.Proofs.YtclploookcjcbaaDoor.PIde
open Go.RowKit Go.Proofs.YtclploookcjcbaaDoorW.PrintWords Go.Proofs.YtclploookcjcbaaDoorW.PrintLast Go.Proofs.YtclploookcjcbaaDoorW.PrintMore
set_option linter.unusedVariables false
set_option linter.unusedSimpArgs false
theorem putA_ok {T : S78} (h : TOk T) (i : Int) (k v : S29) : TOk (putA T i k v).2 := by
  obtain ⟨h1, h2, h3⟩ := h
  unfold putA
  split
  · split
    · exact ⟨Nat.le_trans (List.length_eraseIdx_le _ _) h1, h2, h3⟩
    · exact ⟨by simpa using h1, h2, h3⟩
  · split
    · exact ⟨h1, h2, h3⟩
    · split
      · exact ⟨h1, h2, h3⟩
      · rename_i hf
        exact ⟨by simp only [List.length_append, List.length_cons, List.length_nil]; omega, by show 0 ≤ T.f1 + 1; omega, by show T.f1 + 1 ≤ _; omega⟩
/-- The state of a play is within its bounds. -/
def PlayOk (ts : List S78) (ss : List ByteArray) : Prop := ts.length ≤ 100 ∧ ss.length ≤ 50 ∧ ∀ T ∈ ts, TOk T
theorem stepM_ok (ix : S29 → List S88 → Int) {ts : List S78} {ss : List ByteArray} (h : PlayOk ts ss) (x : S31) : PlayOk (stepM ix ts ss x).2.1 (stepM ix ts ss x).2.2 := by
  obtain ⟨h1, h2, h3⟩ := h
  cases hok : aB x
  · rw [show stepM ix ts ss x = (codeA 1, ts, ss) from if_pos hok]; exact ⟨h1, h2, h3⟩
  obtain ⟨q1, q2, q3, q0⟩ := aB_parts hok
  have hok' : ¬ aB x = false := by rw [hok]; simp
  rw [show stepM ix ts ss x = _ from if_neg hok']
  split
  · exact ⟨h1, h2, h3⟩
  rename_i c2
  split
  · exact ⟨h1, h2, h3⟩
  split
  · exact ⟨h1, h2, h3⟩
  split
  · split
    · exact ⟨h1, h2, h3⟩
    · refine ⟨by simp only [List.length_append, List.length_cons, List.length_nil]; omega, h2, fun T hT => ?_⟩
      rcases List.mem_append.1 hT with hT | hT
      · exact h3 T hT
      · rw [List.mem_singleton.1 hT]; exact ⟨by simp [z78], by simp [z78], by simp [z78]⟩
  split
  · split
    · exact ⟨h1, h2, h3⟩
    · exact ⟨h1, by simp only [List.length_append, List.length_cons, List.length_nil]; omega, h3⟩
  split
  · refine ⟨by simpa using h1, h2, fun T hT => ?_⟩
    rcases List.mem_or_eq_of_mem_set hT with hT | rfl
    · exact h3 T hT
    · exact putA_ok (rd_ok h3 x.f1 q1 (by omega)) _ _ _
  split
  · exact ⟨h1, h2, h3⟩
  · exact ⟨h1, h2, h3⟩
/-- A play: the answers, the tables, the sites' keys. -/
def playS (ix : S29 → List S88 → Int) (st : List S60 × List S78 × List ByteArray) (x : S31) : List S60 × List S78 × List ByteArray := (st.1 ++ [(stepM ix st.2.1 st.2.2 x).1], (stepM ix st.2.1 st.2.2 x).2)
def playM (ix : S29 → List S88 → Int) (acts : List S31) : List S60 × List S78 × List ByteArray := acts.foldl (playS ix) ([], [], [])
theorem playM_snoc (ix : S29 → List S88 → Int) (acts : List S31) (i : Nat) (hi : i < acts.length) : playM ix (acts.take (i + 1)) = playS ix (playM ix (acts.take i)) (acts.getD i z31) := by
  unfold playM
  rw [List.take_succ_eq_append_getElem hi, List.foldl_append]
  simp [List.getD_eq_getElem?_getD, List.getElem?_eq_getElem hi]
theorem playM_ok (ix : S29 → List S88 → Int) (acts : List S31) : ∀ i : Nat, i ≤ acts.length → PlayOk (playM ix (acts.take i)).2.1 (playM ix (acts.take i)).2.2 ∧ (playM ix (acts.take i)).1.length = i
  | 0, _ => ⟨⟨by simp [playM], by simp [playM], by simp [playM]⟩, by simp [playM]⟩
  | i + 1, hi => by
    obtain ⟨h1, h2⟩ := playM_ok ix acts i (by omega)
    rw [playM_snoc ix acts i (by omega)]
    exact ⟨stepM_ok ix h1 _, by simp [playS, h2]⟩
/-- What a script answers on plain lists. -/
def idealM (ix : S29 → List S88 → Int) (acts : List S31) : S39 := if 1000 < acts.length then z39 else ⟨true, (playM ix acts).1, (playM ix acts).2.1⟩
/-- The script's answer, of the call's own. -/
def IdealOut (w : World) (v : S39) (e : Ending) (w' : World) : Prop := ∃ av tv, e = .returned (.agg #[.bool v.f0, av, tv]) ∧ k60.R 60 w' w.heap.size tt av v.f1 ∧ Kd.S k78 78 w' w.heap.size tt tv v.f2 ∧ Below w.heap.size w w'
end Go.Proofs.YtclploookcjcbaaDoor.PIde
