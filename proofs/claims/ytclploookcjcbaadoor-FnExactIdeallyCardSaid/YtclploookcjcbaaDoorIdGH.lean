/- Proved: the program's step: a table is asked; the program's step: a key is written; the program's step: a table comes, a site comes. Conditions: those each theorem states. -/
import Derived.Test.YtclploookcjcbaaDoorIdGG
import Derived.Test.YtclploookcjcbaaDoorIdGC
import Derived.Deep.RegionHeld3
import Derived.Test.YtclploookcjcbaaDoorIdGD
namespace Go.Proofs.YtclploookcjcbaaDoor.PIde
open Go.RowKit Go.Proofs.YtclploookcjcbaaDoorW.PrintWords Go.Proofs.YtclploookcjcbaaDoorW.PrintLast Go.Proofs.YtclploookcjcbaaDoorW.PrintMore
attribute [local go_sem] max2_int min2_int max_two min_two max_three min_three max_four min_four   -- for this text's walks alone
set_option linter.unusedVariables false
set_option linter.unusedSimpArgs false
set_option maxHeartbeats 8000000 in
set_option maxRecDepth 100000 in
theorem doI_count (w0 w : World) (base gP gS : Nat) (av tv sv : Value) (ts : List S78) (ss : List ByteArray) (x : S31) (hs : ISt w0 w base gP gS av tv sv ts ss) (hn : x.f0 = 6) (hok : aB x = true) (h0 : 0 ≤ x.f1) (hlt : x.f1 < (ts.length : Int)) :
    Calls Tryd.prog 26 #[.pointer (some ⟨gP, 0, none⟩), .agg (ac x).toArray, .pointer (some ⟨gS, 0, none⟩)] w (DoneI w0 w base gP gS av (askA x (rd_T78 ts x.f1).f0, ts, ss)) := by
  obtain ⟨g, tc, he, -, -, -⟩ := Kd.S_form hs.T (by omega)
  subst he
  obtain ⟨sA, sc, rfl⟩ := Kd.R_slice hs.S
  have HS := Aside0.mk hs
  obtain ⟨x0, x1, x2, x3, ⟨k0, k1, k2, k3, k4⟩, ⟨v0, v1, v2, v3, v4⟩⟩ := x
  obtain rfl : x0 = 6 := hn
  simp only [] at h0 hlt
  have hd := decide_eq_false (show ¬ (ts.length : Int) ≤ x1 by omega)
  have HK : Aside0 (∀ w1, Calls Tryd.prog 43 #[.agg #[.int .i64 k0, .int .i64 k1, .float .f64 k2, .string k3, .int .i64 k4]] w1 fun e w' => e = .returned (.agg #[.int .i64 (keyC ⟨k0, k1, k2, k3, k4⟩), .int .i64 (keyV ⟨k0, k1, k2, k3, k4⟩).f0, .int .i64 (keyV ⟨k0, k1, k2, k3, k4⟩).f1, .float .f64 (keyV ⟨k0, k1, k2, k3, k4⟩).f2, .string (keyV ⟨k0, k1, k2, k3, k4⟩).f3, .int .i64 (keyV ⟨k0, k1, k2, k3, k4⟩).f4]) ∧ Below w1.heap.size w1 w') := ⟨fun w1 => implKey_calls ⟨k0, k1, k2, k3, k4⟩ w1⟩
  rw [show askA ⟨6, x1, x2, x3, ⟨k0, k1, k2, k3, k4⟩, ⟨v0, v1, v2, v3, v4⟩⟩ (rd_T78 ts x1).f0 = ⟨0, ((rd_T78 ts x1).f0.length : Int), z29, z29⟩ from (if_neg (show ¬ (6 : Int) = 4 by decide)).trans (if_pos rfl)]
  have HLD := Aside0.mk (fun w1 (hS : Kd.S k78 78 w1 base tt (.slice (some ⟨g, 0, none⟩) ts.length tc) ts) => T_lend hS x1 h0 hlt)
  generalize rd_T78 ts x1 = Tb at *
  obtain ⟨ps, tn⟩ := Tb
  simp only [] at *
  generalize keyC ⟨k0, k1, k2, k3, k4⟩ = kC at *
  generalize keyV ⟨k0, k1, k2, k3, k4⟩ = kV at *
  show Calls Tryd.prog 26 #[.pointer (some ⟨gP, 0, none⟩), .agg #[.int .i64 6, .int .i64 x1, .int .i64 x2, .int .i64 x3, .int .i64 k0, .int .i64 k1, .float .f64 k2, .string k3, .int .i64 k4, .int .i64 v0, .int .i64 v1, .float .f64 v2, .string v3, .int .i64 v4], .pointer (some ⟨gS, 0, none⟩)] w _
  have HB := Aside0.mk (below_alloc (below_alloc (Below.refl w.heap.size w) (.cells #[.int .i64 6, .int .i64 x1, .int .i64 x2, .int .i64 x3, .int .i64 k0, .int .i64 k1, .float .f64 k2, .string k3, .int .i64 k4, .int .i64 v0, .int .i64 v1, .float .f64 v2, .string v3, .int .i64 v4] 31)) (.cells #[.int .i64 0, .int .i64 0, .int .i64 0, .int .i64 0, .float .f64 0, .string ⟨#[]⟩, .int .i64 0, .int .i64 0, .int .i64 0, .float .f64 0, .string ⟨#[]⟩, .int .i64 0] 60))
  have BX := Aside0.mk (heap_alloc2_old w (.cells #[.int .i64 6, .int .i64 x1, .int .i64 x2, .int .i64 x3, .int .i64 k0, .int .i64 k1, .float .f64 k2, .string k3, .int .i64 k4, .int .i64 v0, .int .i64 v1, .float .f64 v2, .string v3, .int .i64 v4] 31) (.cells #[.int .i64 0, .int .i64 0, .int .i64 0, .int .i64 0, .float .f64 0, .string ⟨#[]⟩, .int .i64 0, .int .i64 0, .int .i64 0, .float .f64 0, .string ⟨#[]⟩, .int .i64 0] 60))
  have BA := Aside0.mk (heap_alloc2_new w (.cells #[.int .i64 6, .int .i64 x1, .int .i64 x2, .int .i64 x3, .int .i64 k0, .int .i64 k1, .float .f64 k2, .string k3, .int .i64 k4, .int .i64 v0, .int .i64 v1, .float .f64 v2, .string v3, .int .i64 v4] 31) (.cells #[.int .i64 0, .int .i64 0, .int .i64 0, .int .i64 0, .float .f64 0, .string ⟨#[]⟩, .int .i64 0, .int .i64 0, .int .i64 0, .float .f64 0, .string ⟨#[]⟩, .int .i64 0] 60))
  have LE := hs.le
  have lt1 := blk_lt hs.P
  have ltq := blk_lt hs.Q
  have HA : Aside0 (∀ w1, Lies w1 → Calls Tryd.prog 8 #[.agg #[.int .i64 6, .int .i64 x1, .int .i64 x2, .int .i64 x3, .int .i64 k0, .int .i64 k1, .float .f64 k2, .string k3, .int .i64 k4, .int .i64 v0, .int .i64 v1, .float .f64 v2, .string v3, .int .i64 v4]] w1 fun e w' => e = .returned (.bool true) ∧ Below w1.heap.size w1 w') := ⟨fun w1 hl => by have := implAct_calls ⟨6, x1, x2, x3, ⟨k0, k1, k2, k3, k4⟩, ⟨v0, v1, v2, v3, v4⟩⟩ w1 hl; rw [act_eq, hok] at this; exact this⟩
  clear hok
  have hu := Tryd.underlying29
  have hu2 := Tryd.underlying31
  have hu3 := Tryd.underlying39
  have hu4 := Tryd.underlying37
  have hu5 := Tryd.underlying60
  have hu6 := Tryd.underlying74
  have hu7 := Tryd.underlying78
  have hu8 := Tryd.underlying88
  have hu9 := Tryd.underlying52
  have hu10 := Tryd.underlying56
  have b1 := bt1_1
  have b1n := bne_f b1
  have b2 := bt1_2
  have b2n := bne_t b2
  go_enter Tryd.func26, Tryd.ntmps26
  go_wp2_with (go_at_call 8; refine (HA.out _ (HS.out.below HB.out).lies).mono ?_; rintro e w1 ⟨rfl, hb⟩; have HW := Aside0.mk (below_step HB.out hb); have BX1 := Aside0.mk (blk_below BX.out hb); have BA1 := Aside0.mk (blk_below BA.out hb); have HS1 := Aside0.mk (HS.out.below HW.out); clear HB BX BA HA hb HS; obtain ⟨xz0, xz1, xz2, xz3, xz4, xz5, xz6, xz7, xz8, xz9, xz10, xz11, xz12, xz13⟩ := c14 BX1.out; obtain ⟨⟨az0, az1, az2, az3, az4, az5, az6, az7, az8, az9, az10, az11⟩, af0, af1, af2, af3, af4, af5, af6, af7, af8, af9, af10, af11⟩ := c12 BA1.out; have mz2 := (blk_cell HS1.out.P 2).trans (show _ = some _ from rfl); have nz0 := (blk_cell HS1.out.Q 0).trans (show _ = some _ from rfl); have lt2 := blk_lt BA1.out; have fz : w1.cell? ⟨0, 6, none⟩ = some (.int .i64 1) := HS1.out.lies.2 6 (by omega))
  go_quiet (fail)
  go_wp2
  go_quiet (fail)
  go_wp2_with (first | (go_at_call 43; refine (HK.out _).mono ?_; rintro e w3 ⟨rfl, hb⟩; replace hb : Below w1.heap.size w1 w3 := ⟨hb.os, hb.tape, hb.output, hb.size, hb.block⟩; have HW2 := Aside0.mk (below_step HW.out hb); have BX2 := Aside0.mk (blk_below BX1.out hb); have BA2 := Aside0.mk (blk_below BA1.out hb); have HS2 := Aside0.mk (HS1.out.below hb); clear HK hb HW HS1 BX1 BA1 xz0 xz1 xz2 xz3 xz4 xz5 xz6 xz7 xz8 xz9 xz10 xz11 xz12 xz13 az0 az1 az2 az3 az4 az5 az6 az7 az8 az9 az10 az11 af0 af1 af2 af3 af4 af5 af6 af7 af8 af9 af10 af11 mz2 nz0 fz lt2; obtain ⟨xz0, xz1, xz2, xz3, xz4, xz5, xz6, xz7, xz8, xz9, xz10, xz11, xz12, xz13⟩ := c14 BX2.out; obtain ⟨⟨az0, az1, az2, az3, az4, az5, az6, az7, az8, az9, az10, az11⟩, af0, af1, af2, af3, af4, af5, af6, af7, af8, af9, af10, af11⟩ := c12 BA2.out; have mz2 := (blk_cell HS2.out.P 2).trans (show _ = some _ from rfl); have nz0 := (blk_cell HS2.out.Q 0).trans (show _ = some _ from rfl); have lt2 := blk_lt BA2.out; have lt3 := blk_lt HS2.out.P; have lt4 := blk_lt BX2.out; have lt5 := blk_lt HS2.out.Q))
  obtain ⟨W, eW⟩ : ∃ W, W = w3.alloc (.cells #[.int .i64 kC, .int .i64 kV.f0, .int .i64 kV.f1, .float .f64 kV.f2, .string kV.f3, .int .i64 kV.f4] 74) := ⟨_, rfl⟩
  have hbW : Below w3.heap.size w3 W := by rw [eW]; exact below_alloc (Below.refl _ _) _
  have HW3 := Aside0.mk (below_step HW2.out hbW)
  have BX3 := Aside0.mk (blk_below BX2.out hbW)
  have BA3 := Aside0.mk (blk_below BA2.out hbW)
  have HS3 := Aside0.mk (HS2.out.below hbW)
  have BK3 := Aside0.mk (show W.heap[w3.heap.size]? = some (.cells #[.int .i64 kC, .int .i64 kV.f0, .int .i64 kV.f1, .float .f64 kV.f2, .string kV.f3, .int .i64 kV.f4] 74 (0, 0)) by rw [eW]; exact heap_alloc_new _ _)
  rw [← eW]
  have NK0 := lt2
  clear eW hbW HW2 BX2 BA2 HS2 xz0 xz1 xz2 xz3 xz4 xz5 xz6 xz7 xz8 xz9 xz10 xz11 xz12 xz13 az0 az1 az2 az3 az4 az5 az6 az7 az8 az9 az10 az11 af0 af1 af2 af3 af4 af5 af6 af7 af8 af9 af10 af11 mz2 nz0 lt2 lt3 lt4 lt5
  generalize w3.heap.size = gK at *
  obtain ⟨xz0, xz1, xz2, xz3, xz4, xz5, xz6, xz7, xz8, xz9, xz10, xz11, xz12, xz13⟩ := c14 BX3.out
  have mz2 := (blk_cell HS3.out.P 2).trans (show _ = some _ from rfl)
  have lt3 := blk_lt HS3.out.P
  have lt4 := blk_lt BX3.out
  go_quiet (fail)
  have hbq : Below W.heap.size W (W.drewN nq) := pw_below_drewN (Below.refl _ _) nq
  generalize W.drewN nq = W2 at hbq ⊢
  have HW4 := Aside0.mk (below_step HW3.out hbq)
  have BX4 := Aside0.mk (blk_below BX3.out hbq)
  have BA4 := Aside0.mk (blk_below BA3.out hbq)
  have BK4 := Aside0.mk (blk_below BK3.out hbq)
  have HS4 := Aside0.mk (HS3.out.below hbq)
  clear hbq HW3 BX3 BA3 BK3 HS3 xz0 xz1 xz2 xz3 xz4 xz5 xz6 xz7 xz8 xz9 xz10 xz11 xz12 xz13 mz2 lt3 lt4
  obtain ⟨xz0, xz1, xz2, xz3, xz4, xz5, xz6, xz7, xz8, xz9, xz10, xz11, xz12, xz13⟩ := c14 BX4.out
  obtain ⟨⟨az0, az1, az2, az3, az4, az5, az6, az7, az8, az9, az10, az11⟩, af0, af1, af2, af3, af4, af5, af6, af7, af8, af9, af10, af11⟩ := c12 BA4.out
  obtain ⟨kz0, kz1, kz2, kz3, kz4, kz5⟩ := c6 BK4.out
  have lt3 := blk_lt HS4.out.P
  have lt4 := blk_lt BA4.out
  have lt5 := blk_lt BX4.out
  have lt6 := blk_lt BK4.out
  obtain ⟨oki, pv, hR, hx0, hx1, -, -, -, -⟩ := HLD.out W2 HS4.out.T
  obtain ⟨A0, c0, rfl⟩ := Kd.R_slice hR
  obtain ⟨-, hl0, hc0⟩ := Kd.R_reads' hR
  have HC := Aside0.mk hc0
  have hm := hc0.2.1
  have lt7 := World.block_lt_of_cell? W2 _ hx0
  clear hR hx1 hc0 HLD
  go_wp2
  exact bodyPost_ret (ret60 rfl rfl (set12 BA4.out)) rfl (doneI HS4.out (KT.below HW4.out) BA4.out (by omega) (by omega) ⟨0, (ps.length : Int), z29, z29⟩)
set_option maxHeartbeats 8000000 in
set_option maxRecDepth 100000 in
theorem doI_after (w0 w : World) (base gP gS : Nat) (av tv sv : Value) (ts : List S78) (ss : List ByteArray) (x : S31) (hs : ISt w0 w base gP gS av tv sv ts ss) (hn : x.f0 = 4) (hok : aB x = true) (h0 : 0 ≤ x.f1) (hlt : x.f1 < (ts.length : Int)) :
    Calls Tryd.prog 26 #[.pointer (some ⟨gP, 0, none⟩), .agg (ac x).toArray, .pointer (some ⟨gS, 0, none⟩)] w (DoneI w0 w base gP gS av (askA x (rd_T78 ts x.f1).f0, ts, ss)) := by
  obtain ⟨g, tc, he, -, -, -⟩ := Kd.S_form hs.T (by omega)
  subst he
  obtain ⟨sA, sc, rfl⟩ := Kd.R_slice hs.S
  have HS := Aside0.mk hs
  obtain ⟨x0, x1, x2, x3, ⟨k0, k1, k2, k3, k4⟩, ⟨v0, v1, v2, v3, v4⟩⟩ := x
  obtain rfl : x0 = 4 := hn
  simp only [] at h0 hlt
  have hd := decide_eq_false (show ¬ (ts.length : Int) ≤ x1 by omega)
  have HK : Aside0 (∀ w1, Calls Tryd.prog 43 #[.agg #[.int .i64 k0, .int .i64 k1, .float .f64 k2, .string k3, .int .i64 k4]] w1 fun e w' => e = .returned (.agg #[.int .i64 (keyC ⟨k0, k1, k2, k3, k4⟩), .int .i64 (keyV ⟨k0, k1, k2, k3, k4⟩).f0, .int .i64 (keyV ⟨k0, k1, k2, k3, k4⟩).f1, .float .f64 (keyV ⟨k0, k1, k2, k3, k4⟩).f2, .string (keyV ⟨k0, k1, k2, k3, k4⟩).f3, .int .i64 (keyV ⟨k0, k1, k2, k3, k4⟩).f4]) ∧ Below w1.heap.size w1 w') := ⟨fun w1 => implKey_calls ⟨k0, k1, k2, k3, k4⟩ w1⟩
  rw [show askA ⟨4, x1, x2, x3, ⟨k0, k1, k2, k3, k4⟩, ⟨v0, v1, v2, v3, v4⟩⟩ (rd_T78 ts x1).f0 = ⟨0, (aftP x3 (rd_T78 ts x1).f0).f2, (aftP x3 (rd_T78 ts x1).f0).f0, (aftP x3 (rd_T78 ts x1).f0).f1⟩ from if_pos rfl]
  have HLD := Aside0.mk (fun w1 (hS : Kd.S k78 78 w1 base tt (.slice (some ⟨g, 0, none⟩) ts.length tc) ts) => T_lend hS x1 h0 hlt)
  generalize rd_T78 ts x1 = Tb at *
  obtain ⟨ps, tn⟩ := Tb
  simp only [] at *
  generalize keyC ⟨k0, k1, k2, k3, k4⟩ = kC at *
  generalize keyV ⟨k0, k1, k2, k3, k4⟩ = kV at *
  show Calls Tryd.prog 26 #[.pointer (some ⟨gP, 0, none⟩), .agg #[.int .i64 4, .int .i64 x1, .int .i64 x2, .int .i64 x3, .int .i64 k0, .int .i64 k1, .float .f64 k2, .string k3, .int .i64 k4, .int .i64 v0, .int .i64 v1, .float .f64 v2, .string v3, .int .i64 v4], .pointer (some ⟨gS, 0, none⟩)] w _
  have HB := Aside0.mk (below_alloc (below_alloc (Below.refl w.heap.size w) (.cells #[.int .i64 4, .int .i64 x1, .int .i64 x2, .int .i64 x3, .int .i64 k0, .int .i64 k1, .float .f64 k2, .string k3, .int .i64 k4, .int .i64 v0, .int .i64 v1, .float .f64 v2, .string v3, .int .i64 v4] 31)) (.cells #[.int .i64 0, .int .i64 0, .int .i64 0, .int .i64 0, .float .f64 0, .string ⟨#[]⟩, .int .i64 0, .int .i64 0, .int .i64 0, .float .f64 0, .string ⟨#[]⟩, .int .i64 0] 60))
  have BX := Aside0.mk (heap_alloc2_old w (.cells #[.int .i64 4, .int .i64 x1, .int .i64 x2, .int .i64 x3, .int .i64 k0, .int .i64 k1, .float .f64 k2, .string k3, .int .i64 k4, .int .i64 v0, .int .i64 v1, .float .f64 v2, .string v3, .int .i64 v4] 31) (.cells #[.int .i64 0, .int .i64 0, .int .i64 0, .int .i64 0, .float .f64 0, .string ⟨#[]⟩, .int .i64 0, .int .i64 0, .int .i64 0, .float .f64 0, .string ⟨#[]⟩, .int .i64 0] 60))
  have BA := Aside0.mk (heap_alloc2_new w (.cells #[.int .i64 4, .int .i64 x1, .int .i64 x2, .int .i64 x3, .int .i64 k0, .int .i64 k1, .float .f64 k2, .string k3, .int .i64 k4, .int .i64 v0, .int .i64 v1, .float .f64 v2, .string v3, .int .i64 v4] 31) (.cells #[.int .i64 0, .int .i64 0, .int .i64 0, .int .i64 0, .float .f64 0, .string ⟨#[]⟩, .int .i64 0, .int .i64 0, .int .i64 0, .float .f64 0, .string ⟨#[]⟩, .int .i64 0] 60))
  have LE := hs.le
  have lt1 := blk_lt hs.P
  have ltq := blk_lt hs.Q
  have HA : Aside0 (∀ w1, Lies w1 → Calls Tryd.prog 8 #[.agg #[.int .i64 4, .int .i64 x1, .int .i64 x2, .int .i64 x3, .int .i64 k0, .int .i64 k1, .float .f64 k2, .string k3, .int .i64 k4, .int .i64 v0, .int .i64 v1, .float .f64 v2, .string v3, .int .i64 v4]] w1 fun e w' => e = .returned (.bool true) ∧ Below w1.heap.size w1 w') := ⟨fun w1 hl => by have := implAct_calls ⟨4, x1, x2, x3, ⟨k0, k1, k2, k3, k4⟩, ⟨v0, v1, v2, v3, v4⟩⟩ w1 hl; rw [act_eq, hok] at this; exact this⟩
  clear hok
  have hu := Tryd.underlying29
  have hu2 := Tryd.underlying31
  have hu3 := Tryd.underlying39
  have hu4 := Tryd.underlying37
  have hu5 := Tryd.underlying60
  have hu6 := Tryd.underlying74
  have hu7 := Tryd.underlying78
  have hu8 := Tryd.underlying88
  have hu9 := Tryd.underlying52
  have hu10 := Tryd.underlying56
  have b1 := bt5_1
  have b1n := bne_f b1
  have b2 := bt5_2
  have b2n := bne_t b2
  go_enter Tryd.func26, Tryd.ntmps26
  go_wp2_with (go_at_call 8; refine (HA.out _ (HS.out.below HB.out).lies).mono ?_; rintro e w1 ⟨rfl, hb⟩; have HW := Aside0.mk (below_step HB.out hb); have BX1 := Aside0.mk (blk_below BX.out hb); have BA1 := Aside0.mk (blk_below BA.out hb); have HS1 := Aside0.mk (HS.out.below HW.out); clear HB BX BA HA hb HS; obtain ⟨xz0, xz1, xz2, xz3, xz4, xz5, xz6, xz7, xz8, xz9, xz10, xz11, xz12, xz13⟩ := c14 BX1.out; obtain ⟨⟨az0, az1, az2, az3, az4, az5, az6, az7, az8, az9, az10, az11⟩, af0, af1, af2, af3, af4, af5, af6, af7, af8, af9, af10, af11⟩ := c12 BA1.out; have mz2 := (blk_cell HS1.out.P 2).trans (show _ = some _ from rfl); have nz0 := (blk_cell HS1.out.Q 0).trans (show _ = some _ from rfl); have lt2 := blk_lt BA1.out; have fz : w1.cell? ⟨0, 4, none⟩ = some (.int .i64 5) := HS1.out.lies.2 4 (by omega))
  go_quiet (fail)
  go_wp2
  go_quiet (fail)
  go_wp2_with (first | (go_at_call 43; refine (HK.out _).mono ?_; rintro e w3 ⟨rfl, hb⟩; replace hb : Below w1.heap.size w1 w3 := ⟨hb.os, hb.tape, hb.output, hb.size, hb.block⟩; have HW2 := Aside0.mk (below_step HW.out hb); have BX2 := Aside0.mk (blk_below BX1.out hb); have BA2 := Aside0.mk (blk_below BA1.out hb); have HS2 := Aside0.mk (HS1.out.below hb); clear HK hb HW HS1 BX1 BA1 xz0 xz1 xz2 xz3 xz4 xz5 xz6 xz7 xz8 xz9 xz10 xz11 xz12 xz13 az0 az1 az2 az3 az4 az5 az6 az7 az8 az9 az10 az11 af0 af1 af2 af3 af4 af5 af6 af7 af8 af9 af10 af11 mz2 nz0 fz lt2; obtain ⟨xz0, xz1, xz2, xz3, xz4, xz5, xz6, xz7, xz8, xz9, xz10, xz11, xz12, xz13⟩ := c14 BX2.out; obtain ⟨⟨az0, az1, az2, az3, az4, az5, az6, az7, az8, az9, az10, az11⟩, af0, af1, af2, af3, af4, af5, af6, af7, af8, af9, af10, af11⟩ := c12 BA2.out; have mz2 := (blk_cell HS2.out.P 2).trans (show _ = some _ from rfl); have nz0 := (blk_cell HS2.out.Q 0).trans (show _ = some _ from rfl); have lt2 := blk_lt BA2.out; have lt3 := blk_lt HS2.out.P; have lt4 := blk_lt BX2.out; have lt5 := blk_lt HS2.out.Q))
  obtain ⟨W, eW⟩ : ∃ W, W = w3.alloc (.cells #[.int .i64 kC, .int .i64 kV.f0, .int .i64 kV.f1, .float .f64 kV.f2, .string kV.f3, .int .i64 kV.f4] 74) := ⟨_, rfl⟩
  have hbW : Below w3.heap.size w3 W := by rw [eW]; exact below_alloc (Below.refl _ _) _
  have HW3 := Aside0.mk (below_step HW2.out hbW)
  have BX3 := Aside0.mk (blk_below BX2.out hbW)
  have BA3 := Aside0.mk (blk_below BA2.out hbW)
  have HS3 := Aside0.mk (HS2.out.below hbW)
  have BK3 := Aside0.mk (show W.heap[w3.heap.size]? = some (.cells #[.int .i64 kC, .int .i64 kV.f0, .int .i64 kV.f1, .float .f64 kV.f2, .string kV.f3, .int .i64 kV.f4] 74 (0, 0)) by rw [eW]; exact heap_alloc_new _ _)
  rw [← eW]
  have NK0 := lt2
  clear eW hbW HW2 BX2 BA2 HS2 xz0 xz1 xz2 xz3 xz4 xz5 xz6 xz7 xz8 xz9 xz10 xz11 xz12 xz13 az0 az1 az2 az3 az4 az5 az6 az7 az8 az9 az10 az11 af0 af1 af2 af3 af4 af5 af6 af7 af8 af9 af10 af11 mz2 nz0 lt2 lt3 lt4 lt5
  generalize w3.heap.size = gK at *
  obtain ⟨xz0, xz1, xz2, xz3, xz4, xz5, xz6, xz7, xz8, xz9, xz10, xz11, xz12, xz13⟩ := c14 BX3.out
  have mz2 := (blk_cell HS3.out.P 2).trans (show _ = some _ from rfl)
  have lt3 := blk_lt HS3.out.P
  have lt4 := blk_lt BX3.out
  go_quiet (fail)
  have hbq : Below W.heap.size W (W.drewN nq) := pw_below_drewN (Below.refl _ _) nq
  generalize W.drewN nq = W2 at hbq ⊢
  have HW4 := Aside0.mk (below_step HW3.out hbq)
  have BX4 := Aside0.mk (blk_below BX3.out hbq)
  have BA4 := Aside0.mk (blk_below BA3.out hbq)
  have BK4 := Aside0.mk (blk_below BK3.out hbq)
  have HS4 := Aside0.mk (HS3.out.below hbq)
  clear hbq HW3 BX3 BA3 BK3 HS3 xz0 xz1 xz2 xz3 xz4 xz5 xz6 xz7 xz8 xz9 xz10 xz11 xz12 xz13 mz2 lt3 lt4
  obtain ⟨xz0, xz1, xz2, xz3, xz4, xz5, xz6, xz7, xz8, xz9, xz10, xz11, xz12, xz13⟩ := c14 BX4.out
  obtain ⟨⟨az0, az1, az2, az3, az4, az5, az6, az7, az8, az9, az10, az11⟩, af0, af1, af2, af3, af4, af5, af6, af7, af8, af9, af10, af11⟩ := c12 BA4.out
  obtain ⟨kz0, kz1, kz2, kz3, kz4, kz5⟩ := c6 BK4.out
  have lt3 := blk_lt HS4.out.P
  have lt4 := blk_lt BA4.out
  have lt5 := blk_lt BX4.out
  have lt6 := blk_lt BK4.out
  obtain ⟨oki, pv, hR, hx0, hx1, -, -, -, -⟩ := HLD.out W2 HS4.out.T
  obtain ⟨A0, c0, rfl⟩ := Kd.R_slice hR
  obtain ⟨-, hl0, hc0⟩ := Kd.R_reads' hR
  have HC := Aside0.mk hc0
  have hm := hc0.2.1
  have lt7 := World.block_lt_of_cell? W2 _ hx0
  clear hR hx1 hc0 HLD
  go_wp2
  clear xz0 xz1 xz2 xz3 xz4 xz5 xz6 xz7 xz8 xz9 xz10 xz11 xz12 xz13 az0 az1 az2 az3 az4 az5 az6 az7 az8 az9 az10 az11 af0 af1 af2 af3 af4 af5 af6 af7 af8 af9 af10 af11 kz0 kz1 kz2 kz3 kz4 kz5 BK4
  go_loopg [250] ps.length (fun d v250 wr => ∃ i : Nat, v250 = .int .i64 (i : Int) ∧ Aside0 (i + d = ps.length) ∧ Aside0 (∀ j : Nat, j < i → (ps.getD j z88).f2 ≤ x3) ∧ Aside0 (Below W2.heap.size W2 wr))
  case atStart => exact ⟨0, rfl, ⟨Nat.zero_add _⟩, ⟨fun j hj => absurd hj (Nat.not_lt_zero j)⟩, ⟨Below.refl _ _⟩⟩
  case round =>
    obtain ⟨i, rfl, HD, HN, HQ⟩ := hrel
    have BA5 := Aside0.mk (blk_below BA4.out HQ.out)
    have BX5 := Aside0.mk (blk_below BX4.out HQ.out)
    have HS5 := Aside0.mk (HS4.out.below HQ.out)
    have HW5 := Aside0.mk (below_step HW4.out HQ.out)
    obtain ⟨_, _, _, xz3, _⟩ := c14 BX5.out
    obtain ⟨⟨az0, az1, az2, az3, az4, az5, az6, az7, az8, az9, az10, az11⟩, af0, af1, af2, af3, af4, af5, af6, af7, af8, af9, af10, af11⟩ := c12 BA5.out
    have lt8 := blk_lt BA5.out
    have lt9 := blk_lt BX5.out
    clear BA4 BX4 HS4 HW4
    cases gk with
    | zero =>
      have c1 : decide ((i : Int) < (ps.length : Int)) = false := decide_eq_false (by have := HD.out; omega)
      have c1n : decide (i < ps.length) = false := decide_eq_false (by have := HD.out; omega)
      have HI := Aside0.mk (aftP_none x3 ps (fun j hj => by have := HN.out j (by have := HD.out; omega); omega))
      clear hm
      go_wp2
      rw [HI.out]
      exact bodyPost_ret (ret60 rfl rfl (set12 BA5.out)) rfl (doneI HS5.out (KT.below HW5.out) BA5.out (by omega) (by omega) ⟨0, 0, z29, z29⟩)
    | succ d =>
      have hi : i < ps.length := by have := HD.out; omega
      have c1 : decide ((i : Int) < (ps.length : Int)) = true := decide_eq_true (by omega)
      have c1n : decide (i < ps.length) = true := decide_eq_true hi
      have c2 : decide (0 ≤ (i : Int)) = true := decide_eq_true (by omega)
      obtain ⟨ad, e1, hz0, hz1, hz2, hz3, hz4, hz5, hz6, hz7, hz8, hz9, hz10⟩ := at_T88 (Kd.C_below HC.out HQ.out) (i : Int) (by omega) (by omega)
      cases e1
      simp only [Int.toNat_natCast] at hz0 hz1 hz2 hz3 hz4 hz5 hz6 hz7 hz8 hz9 hz10
      have q1 : 0 ≤ (i : Int) := by omega
      have q2 : (i : Int) < (ps.length : Int) := by omega
      have q3 : IntKind.i64.wrap ((i : Int) + 1) = ((i + 1 : Nat) : Int) := by rw [IntWalk.i64_in _ ⟨by omega, by omega⟩]; omega
      have HSS : Aside0 ((rd_T88 ps (i : Int)) = ps.getD i z88) := Aside0.mk (by simp [rd_T88])
      have HI := Aside0.mk hi
      have HQ1 := Aside0.mk (below_alloc HQ.out (.cells #[.int .i64 (rd_T88 ps (i : Int)).f0.f0, .int .i64 (rd_T88 ps (i : Int)).f0.f1, .float .f64 (rd_T88 ps (i : Int)).f0.f2, .string (rd_T88 ps (i : Int)).f0.f3, .int .i64 (rd_T88 ps (i : Int)).f0.f4, .int .i64 (rd_T88 ps (i : Int)).f1.f0, .int .i64 (rd_T88 ps (i : Int)).f1.f1, .float .f64 (rd_T88 ps (i : Int)).f1.f2, .string (rd_T88 ps (i : Int)).f1.f3, .int .i64 (rd_T88 ps (i : Int)).f1.f4, .int .i64 (rd_T88 ps (i : Int)).f2] 88))
      clear hm hi
      by_cases hs : x3 < (rd_T88 ps (i : Int)).f2
      · have HF := Aside0.mk (aftP_at x3 ps i HI.out (fun j hj => by have := HN.out j hj; omega) (by rw [← HSS.out]; exact hs))
        go_wp2
        rw [HF.out, ← HSS.out]
        exact bodyPost_ret (ret60 rfl rfl (blk_alloc (set12 BA5.out) _)) rfl ((doneI HS5.out (KT.below HW5.out) BA5.out (by omega) (by omega) ⟨0, (rd_T88 ps (i : Int)).f2, (rd_T88 ps (i : Int)).f0, (rd_T88 ps (i : Int)).f1⟩).alloc _)
      · go_wp2
        all_goals
          go_roundg d
          case measure => omega
          case rel => exact ⟨i + 1, by first | rfl | (rw [q3]; done) | simp, ⟨by have := HD.out; omega⟩, ⟨fun j hj => by
            by_cases h : j = i
            · subst h; rw [← HSS.out]; omega
            · exact HN.out j (by omega)⟩, HQ1⟩
set_option maxHeartbeats 8000000 in
set_option maxRecDepth 100000 in
theorem doI_len (w0 w : World) (base gP gS : Nat) (av tv sv : Value) (ts : List S78) (ss : List ByteArray) (x : S31) (hs : ISt w0 w base gP gS av tv sv ts ss) (hn : x.f0 = 5) (hok : aB x = true) (h0 : 0 ≤ x.f1) (hlt : x.f1 < (ts.length : Int)) (h5 : (rd_T78 ts x.f1).f0.length ≤ 1000) (hI : ∀ m : Int, 0 ≤ idxK ⟨2, m, 0, ⟨#[]⟩, 0⟩ (rd_T78 ts x.f1).f0 ↔ hasI (rd_T78 ts x.f1).f0 m = true) :
    Calls Tryd.prog 26 #[.pointer (some ⟨gP, 0, none⟩), .agg (ac x).toArray, .pointer (some ⟨gS, 0, none⟩)] w (DoneI w0 w base gP gS av (askA x (rd_T78 ts x.f1).f0, ts, ss)) := by
  obtain ⟨g, tc, he, -, -, -⟩ := Kd.S_form hs.T (by omega)
  subst he
  obtain ⟨sA, sc, rfl⟩ := Kd.R_slice hs.S
  have HS := Aside0.mk hs
  obtain ⟨x0, x1, x2, x3, ⟨k0, k1, k2, k3, k4⟩, ⟨v0, v1, v2, v3, v4⟩⟩ := x
  obtain rfl : x0 = 5 := hn
  simp only [] at h0 hlt
  have hd := decide_eq_false (show ¬ (ts.length : Int) ≤ x1 by omega)
  have HK : Aside0 (∀ w1, Calls Tryd.prog 43 #[.agg #[.int .i64 k0, .int .i64 k1, .float .f64 k2, .string k3, .int .i64 k4]] w1 fun e w' => e = .returned (.agg #[.int .i64 (keyC ⟨k0, k1, k2, k3, k4⟩), .int .i64 (keyV ⟨k0, k1, k2, k3, k4⟩).f0, .int .i64 (keyV ⟨k0, k1, k2, k3, k4⟩).f1, .float .f64 (keyV ⟨k0, k1, k2, k3, k4⟩).f2, .string (keyV ⟨k0, k1, k2, k3, k4⟩).f3, .int .i64 (keyV ⟨k0, k1, k2, k3, k4⟩).f4]) ∧ Below w1.heap.size w1 w') := ⟨fun w1 => implKey_calls ⟨k0, k1, k2, k3, k4⟩ w1⟩
  rw [show askA ⟨5, x1, x2, x3, ⟨k0, k1, k2, k3, k4⟩, ⟨v0, v1, v2, v3, v4⟩⟩ (rd_T78 ts x1).f0 = ⟨0, (lenP (rd_T78 ts x1).f0 : Int), z29, z29⟩ from (if_neg (show ¬ (5 : Int) = 4 by decide)).trans (if_neg (show ¬ (5 : Int) = 6 by decide))]
  have H5 := Aside0.mk h5
  have HI := Aside0.mk hI
  clear h5 hI
  have HT : Aside0 (∀ w1 A0 c0 (m : Int), w1.cell? ⟨g, x1.toNat * 2, none⟩ = some (.slice A0 (rd_T78 ts x1).f0.length c0) → Kd.C k88 w1 A0 (rd_T78 ts x1).f0.length (rd_T78 ts x1).f0 → Calls Tryd.prog 44 #[.pointer (some ⟨g, x1.toNat * 2, none⟩), .agg #[.int .i64 2, .int .i64 m, .float .f64 0, .string ⟨#[]⟩, .int .i64 0]] w1 fun e w' => e = .returned (.int .i64 (idxK ⟨2, m, 0, ⟨#[]⟩, 0⟩ (rd_T78 ts x1).f0)) ∧ Below w1.heap.size w1 w') := ⟨fun w1 A0 c0 m hp hr => at_calls _ ⟨2, m, 0, ⟨#[]⟩, 0⟩ A0 c0 g (x1.toNat * 2) w1 hp hr⟩
  have HLD := Aside0.mk (fun w1 (hS : Kd.S k78 78 w1 base tt (.slice (some ⟨g, 0, none⟩) ts.length tc) ts) => T_lend hS x1 h0 hlt)
  generalize rd_T78 ts x1 = Tb at *
  obtain ⟨ps, tn⟩ := Tb
  simp only [] at *
  generalize keyC ⟨k0, k1, k2, k3, k4⟩ = kC at *
  generalize keyV ⟨k0, k1, k2, k3, k4⟩ = kV at *
  show Calls Tryd.prog 26 #[.pointer (some ⟨gP, 0, none⟩), .agg #[.int .i64 5, .int .i64 x1, .int .i64 x2, .int .i64 x3, .int .i64 k0, .int .i64 k1, .float .f64 k2, .string k3, .int .i64 k4, .int .i64 v0, .int .i64 v1, .float .f64 v2, .string v3, .int .i64 v4], .pointer (some ⟨gS, 0, none⟩)] w _
  have HB := Aside0.mk (below_alloc (below_alloc (Below.refl w.heap.size w) (.cells #[.int .i64 5, .int .i64 x1, .int .i64 x2, .int .i64 x3, .int .i64 k0, .int .i64 k1, .float .f64 k2, .string k3, .int .i64 k4, .int .i64 v0, .int .i64 v1, .float .f64 v2, .string v3, .int .i64 v4] 31)) (.cells #[.int .i64 0, .int .i64 0, .int .i64 0, .int .i64 0, .float .f64 0, .string ⟨#[]⟩, .int .i64 0, .int .i64 0, .int .i64 0, .float .f64 0, .string ⟨#[]⟩, .int .i64 0] 60))
  have BX := Aside0.mk (heap_alloc2_old w (.cells #[.int .i64 5, .int .i64 x1, .int .i64 x2, .int .i64 x3, .int .i64 k0, .int .i64 k1, .float .f64 k2, .string k3, .int .i64 k4, .int .i64 v0, .int .i64 v1, .float .f64 v2, .string v3, .int .i64 v4] 31) (.cells #[.int .i64 0, .int .i64 0, .int .i64 0, .int .i64 0, .float .f64 0, .string ⟨#[]⟩, .int .i64 0, .int .i64 0, .int .i64 0, .float .f64 0, .string ⟨#[]⟩, .int .i64 0] 60))
  have BA := Aside0.mk (heap_alloc2_new w (.cells #[.int .i64 5, .int .i64 x1, .int .i64 x2, .int .i64 x3, .int .i64 k0, .int .i64 k1, .float .f64 k2, .string k3, .int .i64 k4, .int .i64 v0, .int .i64 v1, .float .f64 v2, .string v3, .int .i64 v4] 31) (.cells #[.int .i64 0, .int .i64 0, .int .i64 0, .int .i64 0, .float .f64 0, .string ⟨#[]⟩, .int .i64 0, .int .i64 0, .int .i64 0, .float .f64 0, .string ⟨#[]⟩, .int .i64 0] 60))
  have LE := hs.le
  have lt1 := blk_lt hs.P
  have ltq := blk_lt hs.Q
  have HA : Aside0 (∀ w1, Lies w1 → Calls Tryd.prog 8 #[.agg #[.int .i64 5, .int .i64 x1, .int .i64 x2, .int .i64 x3, .int .i64 k0, .int .i64 k1, .float .f64 k2, .string k3, .int .i64 k4, .int .i64 v0, .int .i64 v1, .float .f64 v2, .string v3, .int .i64 v4]] w1 fun e w' => e = .returned (.bool true) ∧ Below w1.heap.size w1 w') := ⟨fun w1 hl => by have := implAct_calls ⟨5, x1, x2, x3, ⟨k0, k1, k2, k3, k4⟩, ⟨v0, v1, v2, v3, v4⟩⟩ w1 hl; rw [act_eq, hok] at this; exact this⟩
  clear hok
  have hu := Tryd.underlying29
  have hu2 := Tryd.underlying31
  have hu3 := Tryd.underlying39
  have hu4 := Tryd.underlying37
  have hu5 := Tryd.underlying60
  have hu6 := Tryd.underlying74
  have hu7 := Tryd.underlying78
  have hu8 := Tryd.underlying88
  have hu9 := Tryd.underlying52
  have hu10 := Tryd.underlying56
  have b1 := bt1_1
  have b1n := bne_f b1
  have b2 := bt1_2
  have b2n := bne_t b2
  go_enter Tryd.func26, Tryd.ntmps26
  go_wp2_with (go_at_call 8; refine (HA.out _ (HS.out.below HB.out).lies).mono ?_; rintro e w1 ⟨rfl, hb⟩; have HW := Aside0.mk (below_step HB.out hb); have BX1 := Aside0.mk (blk_below BX.out hb); have BA1 := Aside0.mk (blk_below BA.out hb); have HS1 := Aside0.mk (HS.out.below HW.out); clear HB BX BA HA hb HS; obtain ⟨xz0, xz1, xz2, xz3, xz4, xz5, xz6, xz7, xz8, xz9, xz10, xz11, xz12, xz13⟩ := c14 BX1.out; obtain ⟨⟨az0, az1, az2, az3, az4, az5, az6, az7, az8, az9, az10, az11⟩, af0, af1, af2, af3, af4, af5, af6, af7, af8, af9, af10, af11⟩ := c12 BA1.out; have mz2 := (blk_cell HS1.out.P 2).trans (show _ = some _ from rfl); have nz0 := (blk_cell HS1.out.Q 0).trans (show _ = some _ from rfl); have lt2 := blk_lt BA1.out; have fz : w1.cell? ⟨0, 5, none⟩ = some (.int .i64 1) := HS1.out.lies.2 5 (by omega))
  go_quiet (fail)
  go_wp2
  go_quiet (fail)
  go_wp2_with (first | (go_at_call 43; refine (HK.out _).mono ?_; rintro e w3 ⟨rfl, hb⟩; replace hb : Below w1.heap.size w1 w3 := ⟨hb.os, hb.tape, hb.output, hb.size, hb.block⟩; have HW2 := Aside0.mk (below_step HW.out hb); have BX2 := Aside0.mk (blk_below BX1.out hb); have BA2 := Aside0.mk (blk_below BA1.out hb); have HS2 := Aside0.mk (HS1.out.below hb); clear HK hb HW HS1 BX1 BA1 xz0 xz1 xz2 xz3 xz4 xz5 xz6 xz7 xz8 xz9 xz10 xz11 xz12 xz13 az0 az1 az2 az3 az4 az5 az6 az7 az8 az9 az10 az11 af0 af1 af2 af3 af4 af5 af6 af7 af8 af9 af10 af11 mz2 nz0 fz lt2; obtain ⟨xz0, xz1, xz2, xz3, xz4, xz5, xz6, xz7, xz8, xz9, xz10, xz11, xz12, xz13⟩ := c14 BX2.out; obtain ⟨⟨az0, az1, az2, az3, az4, az5, az6, az7, az8, az9, az10, az11⟩, af0, af1, af2, af3, af4, af5, af6, af7, af8, af9, af10, af11⟩ := c12 BA2.out; have mz2 := (blk_cell HS2.out.P 2).trans (show _ = some _ from rfl); have nz0 := (blk_cell HS2.out.Q 0).trans (show _ = some _ from rfl); have lt2 := blk_lt BA2.out; have lt3 := blk_lt HS2.out.P; have lt4 := blk_lt BX2.out; have lt5 := blk_lt HS2.out.Q))
  obtain ⟨W, eW⟩ : ∃ W, W = w3.alloc (.cells #[.int .i64 kC, .int .i64 kV.f0, .int .i64 kV.f1, .float .f64 kV.f2, .string kV.f3, .int .i64 kV.f4] 74) := ⟨_, rfl⟩
  have hbW : Below w3.heap.size w3 W := by rw [eW]; exact below_alloc (Below.refl _ _) _
  have HW3 := Aside0.mk (below_step HW2.out hbW)
  have BX3 := Aside0.mk (blk_below BX2.out hbW)
  have BA3 := Aside0.mk (blk_below BA2.out hbW)
  have HS3 := Aside0.mk (HS2.out.below hbW)
  have BK3 := Aside0.mk (show W.heap[w3.heap.size]? = some (.cells #[.int .i64 kC, .int .i64 kV.f0, .int .i64 kV.f1, .float .f64 kV.f2, .string kV.f3, .int .i64 kV.f4] 74 (0, 0)) by rw [eW]; exact heap_alloc_new _ _)
  rw [← eW]
  have NK0 := lt2
  clear eW hbW HW2 BX2 BA2 HS2 xz0 xz1 xz2 xz3 xz4 xz5 xz6 xz7 xz8 xz9 xz10 xz11 xz12 xz13 az0 az1 az2 az3 az4 az5 az6 az7 az8 az9 az10 az11 af0 af1 af2 af3 af4 af5 af6 af7 af8 af9 af10 af11 mz2 nz0 lt2 lt3 lt4 lt5
  generalize w3.heap.size = gK at *
  obtain ⟨xz0, xz1, xz2, xz3, xz4, xz5, xz6, xz7, xz8, xz9, xz10, xz11, xz12, xz13⟩ := c14 BX3.out
  have mz2 := (blk_cell HS3.out.P 2).trans (show _ = some _ from rfl)
  have lt3 := blk_lt HS3.out.P
  have lt4 := blk_lt BX3.out
  go_quiet (fail)
  have hbq : Below W.heap.size W (W.drewN nq) := pw_below_drewN (Below.refl _ _) nq
  generalize W.drewN nq = W2 at hbq ⊢
  have HW4 := Aside0.mk (below_step HW3.out hbq)
  have BX4 := Aside0.mk (blk_below BX3.out hbq)
  have BA4 := Aside0.mk (blk_below BA3.out hbq)
  have BK4 := Aside0.mk (blk_below BK3.out hbq)
  have HS4 := Aside0.mk (HS3.out.below hbq)
  clear hbq HW3 BX3 BA3 BK3 HS3 xz0 xz1 xz2 xz3 xz4 xz5 xz6 xz7 xz8 xz9 xz10 xz11 xz12 xz13 mz2 lt3 lt4
  obtain ⟨xz0, xz1, xz2, xz3, xz4, xz5, xz6, xz7, xz8, xz9, xz10, xz11, xz12, xz13⟩ := c14 BX4.out
  obtain ⟨⟨az0, az1, az2, az3, az4, az5, az6, az7, az8, az9, az10, az11⟩, af0, af1, af2, af3, af4, af5, af6, af7, af8, af9, af10, af11⟩ := c12 BA4.out
  obtain ⟨kz0, kz1, kz2, kz3, kz4, kz5⟩ := c6 BK4.out
  have lt3 := blk_lt HS4.out.P
  have lt4 := blk_lt BA4.out
  have lt5 := blk_lt BX4.out
  have lt6 := blk_lt BK4.out
  obtain ⟨oki, pv, hR, hx0, hx1, -, -, -, -⟩ := HLD.out W2 HS4.out.T
  obtain ⟨A0, c0, rfl⟩ := Kd.R_slice hR
  obtain ⟨-, hl0, hc0⟩ := Kd.R_reads' hR
  have HC := Aside0.mk hc0
  have hm := hc0.2.1
  have lt7 := World.block_lt_of_cell? W2 _ hx0
  clear hR hx1 hc0 HLD
  go_wp2
  clear xz0 xz1 xz2 xz3 xz4 xz5 xz6 xz7 xz8 xz9 xz10 xz11 xz12 xz13 az0 az1 az2 az3 az4 az5 az6 az7 az8 az9 az10 az11 af0 af1 af2 af3 af4 af5 af6 af7 af8 af9 af10 af11 kz0 kz1 kz2 kz3 kz4 kz5 BK4
  go_loopg [14] (ps.length + 1) (fun d v14 wr => ∃ n : Nat, v14 = .int .i64 (n : Int) ∧ Aside0 (n + d = ps.length + 1) ∧ Aside0 (∀ j : Nat, j < n → hasI ps ((j : Int) + 1) = true) ∧ Aside0 (Below W2.heap.size W2 wr))
  case atStart => exact ⟨0, rfl, ⟨Nat.zero_add _⟩, ⟨fun j hj => absurd hj (Nat.not_lt_zero j)⟩, ⟨Below.refl _ _⟩⟩
  case round =>
    obtain ⟨n, rfl, HD, HN, HQ⟩ := hrel
    have BA5 := Aside0.mk (blk_below BA4.out HQ.out)
    have HS5 := Aside0.mk (HS4.out.below HQ.out)
    have HW5 := Aside0.mk (below_step HW4.out HQ.out)
    have hx0' := (HQ.out.cell lt7).trans hx0
    have HC5 := Aside0.mk (Kd.C_below HC.out HQ.out)
    have hn1 : (n : Int) ≤ 1001 := by have := HD.out; have := H5.out; omega
    have hn0 : 0 ≤ (n : Int) := by omega
    have HT5 := Aside0.mk (fun w1 => HT.out w1 A0 c0 ((n : Int) + 1))
    have HI5 := HI.out ((n : Int) + 1)
    have RG := idxK_range ⟨2, (n : Int) + 1, 0, ⟨#[]⟩, 0⟩ ps
    clear BA4 BX4 HS4 HW4 hm HT HI hx0
    generalize idxK ⟨2, (n : Int) + 1, 0, ⟨#[]⟩, 0⟩ ps = q at *
    cases hb : hasI ps ((n : Int) + 1)
    · have hq : q = -1 := by
        rcases RG with h | ⟨h, -⟩
        · exact h
        · rw [HI5.1 h] at hb; cases hb
      subst hq
      have HL := Aside0.mk (lenP_at ps n HN.out hb)
      clear RG HI5 hb
      go_wp2_with (go_at_call 44; refine (HT5.out _ hx0' HC5.out).mono ?_; rintro e w6 ⟨rfl, hb⟩; have HW6 := Aside0.mk (below_step HW5.out hb); have BA6 := Aside0.mk (blk_below BA5.out hb); have HS6 := Aside0.mk (HS5.out.below hb); clear hb; obtain ⟨⟨az0, az1, az2, az3, az4, az5, az6, az7, az8, az9, az10, az11⟩, af0, af1, af2, af3, af4, af5, af6, af7, af8, af9, af10, af11⟩ := c12 BA6.out; have lt8 := blk_lt BA6.out)
      rw [HL.out]
      exact bodyPost_ret (ret60 rfl rfl (set12 BA6.out)) rfl (doneI HS6.out (KT.below HW6.out) BA6.out (by omega) (by omega) ⟨0, (n : Int), z29, z29⟩)
    · have hq : 0 ≤ q := HI5.2 hb
      have HJ := Aside0.mk hb
      have LE2 : Aside0 (n < ps.length) := ⟨hasI_le ps (n + 1) (fun j hj => by
        by_cases e : j = n
        · subst e; exact hb
        · exact HN.out j (by omega))⟩
      clear RG HI5 hb
      go_wp2_with (go_at_call 44; refine (HT5.out _ hx0' HC5.out).mono ?_; rintro e w6 ⟨rfl, hb⟩; have HQ6 := Aside0.mk (below_step HQ.out hb); clear hb)
      go_roundg (ps.length - n)
      case measure => have := HD.out; have := LE2.out; omega
      case rel => exact ⟨n + 1, by first | rfl | simp, ⟨by have := LE2.out; omega⟩, ⟨fun j hj => by
        by_cases e : j = n
        · subst e; exact HJ.out
        · exact HN.out j (by omega)⟩, HQ6⟩
end Go.Proofs.YtclploookcjcbaaDoor.PIde
namespace Go.Proofs.YtclploookcjcbaaDoor.PIde
open Go.RowKit Go.Proofs.YtclploookcjcbaaDoorW.PrintWords Go.Proofs.YtclploookcjcbaaDoorW.PrintLast Go.Proofs.YtclploookcjcbaaDoorW.PrintMore
attribute [local go_sem] max2_int min2_int max_two min_two max_three min_three max_four min_four   -- for this text's walks alone
set_option linter.unusedVariables false
set_option linter.unusedSimpArgs false
set_option maxHeartbeats 8000000 in
set_option maxRecDepth 100000 in
theorem doI_put (w0 w : World) (base gP gS : Nat) (av tv sv : Value) (ts : List S78) (ss : List ByteArray) (x : S31) (hs : ISt w0 w base gP gS av tv sv ts ss) (hn : x.f0 = 2) (hok : aB x = true) (h0 : 0 ≤ x.f1) (hlt : x.f1 < (ts.length : Int)) (hkc : keyC x.f4 = 0) (h5 : (rd_T78 ts x.f1).f0.length ≤ 500) (ht0 : 0 ≤ (rd_T78 ts x.f1).f1) (ht1 : (rd_T78 ts x.f1).f1 ≤ 1000000000000) :
    Calls Tryd.prog 26 #[.pointer (some ⟨gP, 0, none⟩), .agg (ac x).toArray, .pointer (some ⟨gS, 0, none⟩)] w (DoneI w0 w base gP gS av (codeA (putA (rd_T78 ts x.f1) (idxK (keyV x.f4) (rd_T78 ts x.f1).f0) (keyV x.f4) x.f5).1, ts.set x.f1.toNat (putA (rd_T78 ts x.f1) (idxK (keyV x.f4) (rd_T78 ts x.f1).f0) (keyV x.f4) x.f5).2, ss)) := by
  obtain ⟨g, tc, he, -, -, -⟩ := Kd.S_form hs.T (by omega)
  subst he
  obtain ⟨sA, sc, rfl⟩ := Kd.R_slice hs.S
  have HS := Aside0.mk hs
  obtain ⟨x0, x1, x2, x3, ⟨k0, k1, k2, k3, k4⟩, ⟨v0, v1, v2, v3, v4⟩⟩ := x
  obtain rfl : x0 = 2 := hn
  simp only [] at h0 hlt
  have hd := decide_eq_false (show ¬ (ts.length : Int) ≤ x1 by omega)
  have HK : Aside0 (∀ w1, Calls Tryd.prog 43 #[.agg #[.int .i64 k0, .int .i64 k1, .float .f64 k2, .string k3, .int .i64 k4]] w1 fun e w' => e = .returned (.agg #[.int .i64 (keyC ⟨k0, k1, k2, k3, k4⟩), .int .i64 (keyV ⟨k0, k1, k2, k3, k4⟩).f0, .int .i64 (keyV ⟨k0, k1, k2, k3, k4⟩).f1, .float .f64 (keyV ⟨k0, k1, k2, k3, k4⟩).f2, .string (keyV ⟨k0, k1, k2, k3, k4⟩).f3, .int .i64 (keyV ⟨k0, k1, k2, k3, k4⟩).f4]) ∧ Below w1.heap.size w1 w') := ⟨fun w1 => implKey_calls ⟨k0, k1, k2, k3, k4⟩ w1⟩
  have hkc2 : (keyC ⟨k0, k1, k2, k3, k4⟩ == 0) = true := by simp only [] at hkc; rw [hkc]; rfl
  have hkc3 := bne_t hkc2
  clear hkc
  have HT : Aside0 (∀ w1 A0 c0, w1.cell? ⟨g, x1.toNat * 2, none⟩ = some (.slice A0 (rd_T78 ts x1).f0.length c0) → Kd.C k88 w1 A0 (rd_T78 ts x1).f0.length (rd_T78 ts x1).f0 → Calls Tryd.prog 44 #[.pointer (some ⟨g, x1.toNat * 2, none⟩), .agg #[.int .i64 (keyV ⟨k0, k1, k2, k3, k4⟩).f0, .int .i64 (keyV ⟨k0, k1, k2, k3, k4⟩).f1, .float .f64 (keyV ⟨k0, k1, k2, k3, k4⟩).f2, .string (keyV ⟨k0, k1, k2, k3, k4⟩).f3, .int .i64 (keyV ⟨k0, k1, k2, k3, k4⟩).f4]] w1 fun e w' => e = .returned (.int .i64 (idxK (keyV ⟨k0, k1, k2, k3, k4⟩) (rd_T78 ts x1).f0)) ∧ Below w1.heap.size w1 w') := ⟨fun w1 A0 c0 hp hr => at_calls _ (keyV ⟨k0, k1, k2, k3, k4⟩) A0 c0 g (x1.toNat * 2) w1 hp hr⟩
  have RG := Aside0.mk (idxK_range (keyV ⟨k0, k1, k2, k3, k4⟩) (rd_T78 ts x1).f0)
  have HLD := Aside0.mk (fun w1 (hS : Kd.S k78 78 w1 base tt (.slice (some ⟨g, 0, none⟩) ts.length tc) ts) => T_lend hS x1 h0 hlt)
  have HL2 := Aside0.mk (fun w1 (hS : Kd.S k78 78 w1 base tt (.slice (some ⟨g, 0, none⟩) ts.length tc) ts) => T_lend2 hS x1 h0 hlt ((rd_T78 ts x1).f1 + 1))
  have HSET := Aside0.mk (set_rd ts x1 h0 hlt)
  have HGT := Aside0.mk (fun w1 (hS : Kd.S k78 78 w1 base tt (.slice (some ⟨g, 0, none⟩) ts.length tc) ts) => Kd.S_typed hS g (by simp [Value.ownBlock]))
  have HGB := Aside0.mk (Kd.S_base hs.T g (by simp [Value.ownBlock]))
  have HGL := Kd.S_lt hs.T g (by simp [Value.ownBlock])
  generalize idxK (keyV ⟨k0, k1, k2, k3, k4⟩) (rd_T78 ts x1).f0 = i at *
  have RR := Aside0.mk (show putA (rd_T78 ts x1) i (keyV ⟨k0, k1, k2, k3, k4⟩) ⟨v0, v1, v2, v3, v4⟩ = if 0 ≤ i then if v0 = 0 then (0, ⟨(rd_T78 ts x1).f0.eraseIdx i.toNat, (rd_T78 ts x1).f1⟩) else (0, ⟨(rd_T78 ts x1).f0.set i.toNat ⟨(rd_T88 (rd_T78 ts x1).f0 i).f0, ⟨v0, v1, v2, v3, v4⟩, (rd_T88 (rd_T78 ts x1).f0 i).f2⟩, (rd_T78 ts x1).f1⟩)
    else if v0 = 0 then (0, (rd_T78 ts x1)) else if ((rd_T78 ts x1).f0.length : Int) = 500 ∨ (rd_T78 ts x1).f1 = 1000000000000 then (5, (rd_T78 ts x1)) else (0, ⟨(rd_T78 ts x1).f0 ++ [⟨keyV ⟨k0, k1, k2, k3, k4⟩, ⟨v0, v1, v2, v3, v4⟩, (rd_T78 ts x1).f1 + 1⟩], (rd_T78 ts x1).f1 + 1⟩) from rfl)
  have H5 := Aside0.mk h5
  have HT0 := Aside0.mk ht0
  have HT1 := Aside0.mk ht1
  clear h5 ht0 ht1
  simp only []
  generalize putA (rd_T78 ts x1) i (keyV ⟨k0, k1, k2, k3, k4⟩) ⟨v0, v1, v2, v3, v4⟩ = R at *
  obtain ⟨rc, rT⟩ := R
  generalize rd_T78 ts x1 = Tb at *
  obtain ⟨ps, tn⟩ := Tb
  simp only [] at *
  generalize keyC ⟨k0, k1, k2, k3, k4⟩ = kC at *
  generalize keyV ⟨k0, k1, k2, k3, k4⟩ = kV at *
  show Calls Tryd.prog 26 #[.pointer (some ⟨gP, 0, none⟩), .agg #[.int .i64 2, .int .i64 x1, .int .i64 x2, .int .i64 x3, .int .i64 k0, .int .i64 k1, .float .f64 k2, .string k3, .int .i64 k4, .int .i64 v0, .int .i64 v1, .float .f64 v2, .string v3, .int .i64 v4], .pointer (some ⟨gS, 0, none⟩)] w _
  have HB := Aside0.mk (below_alloc (below_alloc (Below.refl w.heap.size w) (.cells #[.int .i64 2, .int .i64 x1, .int .i64 x2, .int .i64 x3, .int .i64 k0, .int .i64 k1, .float .f64 k2, .string k3, .int .i64 k4, .int .i64 v0, .int .i64 v1, .float .f64 v2, .string v3, .int .i64 v4] 31)) (.cells #[.int .i64 0, .int .i64 0, .int .i64 0, .int .i64 0, .float .f64 0, .string ⟨#[]⟩, .int .i64 0, .int .i64 0, .int .i64 0, .float .f64 0, .string ⟨#[]⟩, .int .i64 0] 60))
  have BX := Aside0.mk (heap_alloc2_old w (.cells #[.int .i64 2, .int .i64 x1, .int .i64 x2, .int .i64 x3, .int .i64 k0, .int .i64 k1, .float .f64 k2, .string k3, .int .i64 k4, .int .i64 v0, .int .i64 v1, .float .f64 v2, .string v3, .int .i64 v4] 31) (.cells #[.int .i64 0, .int .i64 0, .int .i64 0, .int .i64 0, .float .f64 0, .string ⟨#[]⟩, .int .i64 0, .int .i64 0, .int .i64 0, .float .f64 0, .string ⟨#[]⟩, .int .i64 0] 60))
  have BA := Aside0.mk (heap_alloc2_new w (.cells #[.int .i64 2, .int .i64 x1, .int .i64 x2, .int .i64 x3, .int .i64 k0, .int .i64 k1, .float .f64 k2, .string k3, .int .i64 k4, .int .i64 v0, .int .i64 v1, .float .f64 v2, .string v3, .int .i64 v4] 31) (.cells #[.int .i64 0, .int .i64 0, .int .i64 0, .int .i64 0, .float .f64 0, .string ⟨#[]⟩, .int .i64 0, .int .i64 0, .int .i64 0, .float .f64 0, .string ⟨#[]⟩, .int .i64 0] 60))
  have LE := hs.le
  have lt1 := blk_lt hs.P
  have ltq := blk_lt hs.Q
  have HA : Aside0 (∀ w1, Lies w1 → Calls Tryd.prog 8 #[.agg #[.int .i64 2, .int .i64 x1, .int .i64 x2, .int .i64 x3, .int .i64 k0, .int .i64 k1, .float .f64 k2, .string k3, .int .i64 k4, .int .i64 v0, .int .i64 v1, .float .f64 v2, .string v3, .int .i64 v4]] w1 fun e w' => e = .returned (.bool true) ∧ Below w1.heap.size w1 w') := ⟨fun w1 hl => by have := implAct_calls ⟨2, x1, x2, x3, ⟨k0, k1, k2, k3, k4⟩, ⟨v0, v1, v2, v3, v4⟩⟩ w1 hl; rw [act_eq, hok] at this; exact this⟩
  clear hok
  have hu := Tryd.underlying29
  have hu2 := Tryd.underlying31
  have hu3 := Tryd.underlying39
  have hu4 := Tryd.underlying37
  have hu5 := Tryd.underlying60
  have hu6 := Tryd.underlying74
  have hu7 := Tryd.underlying78
  have hu8 := Tryd.underlying88
  have hu9 := Tryd.underlying52
  have hu10 := Tryd.underlying56
  have b1 := bt25_1
  have b1n := bne_f b1
  have b2 := bt25_2
  have b2n := bne_t b2
  go_enter Tryd.func26, Tryd.ntmps26
  go_wp2_with (go_at_call 8; refine (HA.out _ (HS.out.below HB.out).lies).mono ?_; rintro e w1 ⟨rfl, hb⟩; have HW := Aside0.mk (below_step HB.out hb); have BX1 := Aside0.mk (blk_below BX.out hb); have BA1 := Aside0.mk (blk_below BA.out hb); have HS1 := Aside0.mk (HS.out.below HW.out); clear HB BX BA HA hb HS; obtain ⟨xz0, xz1, xz2, xz3, xz4, xz5, xz6, xz7, xz8, xz9, xz10, xz11, xz12, xz13⟩ := c14 BX1.out; obtain ⟨⟨az0, az1, az2, az3, az4, az5, az6, az7, az8, az9, az10, az11⟩, af0, af1, af2, af3, af4, af5, af6, af7, af8, af9, af10, af11⟩ := c12 BA1.out; have mz2 := (blk_cell HS1.out.P 2).trans (show _ = some _ from rfl); have nz0 := (blk_cell HS1.out.Q 0).trans (show _ = some _ from rfl); have lt2 := blk_lt BA1.out; have fz : w1.cell? ⟨0, 2, none⟩ = some (.int .i64 25) := HS1.out.lies.2 2 (by omega))
  go_quiet (fail)
  go_wp2
  go_quiet (fail)
  go_wp2_with (first | (go_at_call 43; refine (HK.out _).mono ?_; rintro e w3 ⟨rfl, hb⟩; replace hb : Below w1.heap.size w1 w3 := ⟨hb.os, hb.tape, hb.output, hb.size, hb.block⟩; have HW2 := Aside0.mk (below_step HW.out hb); have BX2 := Aside0.mk (blk_below BX1.out hb); have BA2 := Aside0.mk (blk_below BA1.out hb); have HS2 := Aside0.mk (HS1.out.below hb); clear HK hb HW HS1 BX1 BA1 xz0 xz1 xz2 xz3 xz4 xz5 xz6 xz7 xz8 xz9 xz10 xz11 xz12 xz13 az0 az1 az2 az3 az4 az5 az6 az7 az8 az9 az10 az11 af0 af1 af2 af3 af4 af5 af6 af7 af8 af9 af10 af11 mz2 nz0 fz lt2; obtain ⟨xz0, xz1, xz2, xz3, xz4, xz5, xz6, xz7, xz8, xz9, xz10, xz11, xz12, xz13⟩ := c14 BX2.out; obtain ⟨⟨az0, az1, az2, az3, az4, az5, az6, az7, az8, az9, az10, az11⟩, af0, af1, af2, af3, af4, af5, af6, af7, af8, af9, af10, af11⟩ := c12 BA2.out; have mz2 := (blk_cell HS2.out.P 2).trans (show _ = some _ from rfl); have nz0 := (blk_cell HS2.out.Q 0).trans (show _ = some _ from rfl); have lt2 := blk_lt BA2.out; have lt3 := blk_lt HS2.out.P; have lt4 := blk_lt BX2.out; have lt5 := blk_lt HS2.out.Q))
  obtain ⟨W, eW⟩ : ∃ W, W = w3.alloc (.cells #[.int .i64 kC, .int .i64 kV.f0, .int .i64 kV.f1, .float .f64 kV.f2, .string kV.f3, .int .i64 kV.f4] 74) := ⟨_, rfl⟩
  have hbW : Below w3.heap.size w3 W := by rw [eW]; exact below_alloc (Below.refl _ _) _
  have HW3 := Aside0.mk (below_step HW2.out hbW)
  have BX3 := Aside0.mk (blk_below BX2.out hbW)
  have BA3 := Aside0.mk (blk_below BA2.out hbW)
  have HS3 := Aside0.mk (HS2.out.below hbW)
  have BK3 := Aside0.mk (show W.heap[w3.heap.size]? = some (.cells #[.int .i64 kC, .int .i64 kV.f0, .int .i64 kV.f1, .float .f64 kV.f2, .string kV.f3, .int .i64 kV.f4] 74 (0, 0)) by rw [eW]; exact heap_alloc_new _ _)
  rw [← eW]
  have NK0 := lt2
  clear eW hbW HW2 BX2 BA2 HS2 xz0 xz1 xz2 xz3 xz4 xz5 xz6 xz7 xz8 xz9 xz10 xz11 xz12 xz13 az0 az1 az2 az3 az4 az5 az6 az7 az8 az9 az10 az11 af0 af1 af2 af3 af4 af5 af6 af7 af8 af9 af10 af11 mz2 nz0 lt2 lt3 lt4 lt5
  generalize w3.heap.size = gK at *
  obtain ⟨xz0, xz1, xz2, xz3, xz4, xz5, xz6, xz7, xz8, xz9, xz10, xz11, xz12, xz13⟩ := c14 BX3.out
  have mz2 := (blk_cell HS3.out.P 2).trans (show _ = some _ from rfl)
  have lt3 := blk_lt HS3.out.P
  have lt4 := blk_lt BX3.out
  go_quiet (fail)
  have hbq : Below W.heap.size W (W.drewN nq) := pw_below_drewN (Below.refl _ _) nq
  generalize W.drewN nq = W2 at hbq ⊢
  have HW4 := Aside0.mk (below_step HW3.out hbq)
  have BX4 := Aside0.mk (blk_below BX3.out hbq)
  have BA4 := Aside0.mk (blk_below BA3.out hbq)
  have BK4 := Aside0.mk (blk_below BK3.out hbq)
  have HS4 := Aside0.mk (HS3.out.below hbq)
  clear hbq HW3 BX3 BA3 BK3 HS3 xz0 xz1 xz2 xz3 xz4 xz5 xz6 xz7 xz8 xz9 xz10 xz11 xz12 xz13 mz2 lt3 lt4
  obtain ⟨xz0, xz1, xz2, xz3, xz4, xz5, xz6, xz7, xz8, xz9, xz10, xz11, xz12, xz13⟩ := c14 BX4.out
  obtain ⟨⟨az0, az1, az2, az3, az4, az5, az6, az7, az8, az9, az10, az11⟩, af0, af1, af2, af3, af4, af5, af6, af7, af8, af9, af10, af11⟩ := c12 BA4.out
  obtain ⟨kz0, kz1, kz2, kz3, kz4, kz5⟩ := c6 BK4.out
  have lt3 := blk_lt HS4.out.P
  have lt4 := blk_lt BA4.out
  have lt5 := blk_lt BX4.out
  have lt6 := blk_lt BK4.out
  obtain ⟨oki, pv, hR, hx0, hx1, hf0, hf1, -, hPUT⟩ := HLD.out W2 HS4.out.T
  obtain ⟨A0, c0, rfl⟩ := Kd.R_slice hR
  obtain ⟨-, hl0, hc0⟩ := Kd.R_reads' hR
  obtain ⟨gcs, hgc⟩ := HGT.out W2 HS4.out.T
  have GC := Aside0.mk hgc
  have HC := Aside0.mk hc0
  have HR := Aside0.mk hR
  have HPUT := Aside0.mk hPUT
  have lt7 := World.block_lt_of_cell? W2 _ hx0
  have hm : ps.length ≤ 9223372036854775807 := hc0.2.1
  have nzg : ¬ g = w.heap.size + 1 := by omega
  have nzg2 : ¬ w.heap.size + 1 = g := by omega
  clear hR hc0 hPUT HLD hgc
  rcases RG.out with hi | ⟨hi0, hi1⟩
  · subst hi
    by_cases hv : v0 = 0
    · have hvb : (v0 == 0) = true := by rw [hv]; rfl
      obtain ⟨rfl, rfl⟩ : rc = 0 ∧ rT = ⟨ps, tn⟩ := by have := RR.out.trans ((if_neg (by omega)).trans (if_pos hv)); exact ⟨congrArg Prod.fst this, congrArg Prod.snd this⟩
      clear RR
      go_wp2_with (go_at_call 44; refine (HT.out _ _ _ hx0 HC.out).mono ?_; rintro e w5 ⟨rfl, hb⟩; have HQ := Aside0.mk hb; have HW5 := Aside0.mk (below_step HW4.out hb); have BX5 := Aside0.mk (blk_below BX4.out hb); have BA5 := Aside0.mk (blk_below BA4.out hb); have BK5 := Aside0.mk (blk_below BK4.out hb); have HS5 := Aside0.mk (HS4.out.below hb); have yx0 := (hb.cell lt7).trans hx0; have yx1 := (hb.cell (p := ⟨g, x1.toNat * 2 + 1, none⟩) lt7).trans hx1; have yf0 := (hb.frozen (p := ⟨g, x1.toNat * 2, none⟩) lt7).trans hf0; have yf1 := (hb.frozen (p := ⟨g, x1.toNat * 2 + 1, none⟩) lt7).trans hf1; clear hb xz0 xz1 xz2 xz3 xz4 xz5 xz6 xz7 xz8 xz9 xz10 xz11 xz12 xz13 az0 az1 az2 az3 az4 az5 az6 az7 az8 az9 az10 az11 af0 af1 af2 af3 af4 af5 af6 af7 af8 af9 af10 af11 kz0 kz1 kz2 kz3 kz4 kz5; obtain ⟨xz0, xz1, xz2, xz3, xz4, xz5, xz6, xz7, xz8, xz9, xz10, xz11, xz12, xz13⟩ := c14 BX5.out; obtain ⟨⟨az0, az1, az2, az3, az4, az5, az6, az7, az8, az9, az10, az11⟩, af0, af1, af2, af3, af4, af5, af6, af7, af8, af9, af10, af11⟩ := c12 BA5.out; obtain ⟨kz0, kz1, kz2, kz3, kz4, kz5⟩ := c6 BK5.out; have lt8 := blk_lt BA5.out; have lt9 := blk_lt BX5.out; have lt10 := blk_lt BK5.out)
      rw [HSET.out]
      exact bodyPost_ret (ret60 rfl rfl (set12 BA5.out)) rfl (doneI HS5.out (KT.below HW5.out) BA5.out (by omega) (by omega) (codeA 0))
    · have hvb : (v0 == 0) = false := beq_eq_false_iff_ne.mpr hv
      by_cases hf : ((ps.length : Int) = 500) ∨ tn = 1000000000000
      · have HRE : Aside0 (rc = 5 ∧ rT = ⟨ps, tn⟩) := ⟨by have := RR.out.trans ((if_neg (by omega)).trans ((if_neg hv).trans (if_pos hf))); exact ⟨congrArg Prod.fst this, congrArg Prod.snd this⟩⟩
        have HF := Aside0.mk hf
        obtain ⟨rfl, rfl⟩ := HRE.out
        clear hf RR HRE
        cases hq : ((ps.length : Int) == 500)
        · have hqn : (ps.length == 500) = false := by rw [beq_eq_false_iff_ne] at hq ⊢; omega
          have ht : (tn == 1000000000000) = true := by rcases HF.out with h | h <;> simp_all
          go_wp2_with (go_at_call 44; refine (HT.out _ _ _ hx0 HC.out).mono ?_; rintro e w5 ⟨rfl, hb⟩; have HQ := Aside0.mk hb; have HW5 := Aside0.mk (below_step HW4.out hb); have BX5 := Aside0.mk (blk_below BX4.out hb); have BA5 := Aside0.mk (blk_below BA4.out hb); have BK5 := Aside0.mk (blk_below BK4.out hb); have HS5 := Aside0.mk (HS4.out.below hb); have yx0 := (hb.cell lt7).trans hx0; have yx1 := (hb.cell (p := ⟨g, x1.toNat * 2 + 1, none⟩) lt7).trans hx1; have yf0 := (hb.frozen (p := ⟨g, x1.toNat * 2, none⟩) lt7).trans hf0; have yf1 := (hb.frozen (p := ⟨g, x1.toNat * 2 + 1, none⟩) lt7).trans hf1; clear hb xz0 xz1 xz2 xz3 xz4 xz5 xz6 xz7 xz8 xz9 xz10 xz11 xz12 xz13 az0 az1 az2 az3 az4 az5 az6 az7 az8 az9 az10 az11 af0 af1 af2 af3 af4 af5 af6 af7 af8 af9 af10 af11 kz0 kz1 kz2 kz3 kz4 kz5; obtain ⟨xz0, xz1, xz2, xz3, xz4, xz5, xz6, xz7, xz8, xz9, xz10, xz11, xz12, xz13⟩ := c14 BX5.out; obtain ⟨⟨az0, az1, az2, az3, az4, az5, az6, az7, az8, az9, az10, az11⟩, af0, af1, af2, af3, af4, af5, af6, af7, af8, af9, af10, af11⟩ := c12 BA5.out; obtain ⟨kz0, kz1, kz2, kz3, kz4, kz5⟩ := c6 BK5.out; have lt8 := blk_lt BA5.out; have lt9 := blk_lt BX5.out; have lt10 := blk_lt BK5.out)
          rw [HSET.out]
          exact bodyPost_ret (ret60 rfl rfl (set12 BA5.out)) rfl (doneI HS5.out (KT.below HW5.out) BA5.out (by omega) (by omega) (codeA 5))
        · have hqn : (ps.length == 500) = true := by rw [beq_iff_eq] at hq ⊢; omega
          go_wp2_with (go_at_call 44; refine (HT.out _ _ _ hx0 HC.out).mono ?_; rintro e w5 ⟨rfl, hb⟩; have HQ := Aside0.mk hb; have HW5 := Aside0.mk (below_step HW4.out hb); have BX5 := Aside0.mk (blk_below BX4.out hb); have BA5 := Aside0.mk (blk_below BA4.out hb); have BK5 := Aside0.mk (blk_below BK4.out hb); have HS5 := Aside0.mk (HS4.out.below hb); have yx0 := (hb.cell lt7).trans hx0; have yx1 := (hb.cell (p := ⟨g, x1.toNat * 2 + 1, none⟩) lt7).trans hx1; have yf0 := (hb.frozen (p := ⟨g, x1.toNat * 2, none⟩) lt7).trans hf0; have yf1 := (hb.frozen (p := ⟨g, x1.toNat * 2 + 1, none⟩) lt7).trans hf1; clear hb xz0 xz1 xz2 xz3 xz4 xz5 xz6 xz7 xz8 xz9 xz10 xz11 xz12 xz13 az0 az1 az2 az3 az4 az5 az6 az7 az8 az9 az10 az11 af0 af1 af2 af3 af4 af5 af6 af7 af8 af9 af10 af11 kz0 kz1 kz2 kz3 kz4 kz5; obtain ⟨xz0, xz1, xz2, xz3, xz4, xz5, xz6, xz7, xz8, xz9, xz10, xz11, xz12, xz13⟩ := c14 BX5.out; obtain ⟨⟨az0, az1, az2, az3, az4, az5, az6, az7, az8, az9, az10, az11⟩, af0, af1, af2, af3, af4, af5, af6, af7, af8, af9, af10, af11⟩ := c12 BA5.out; obtain ⟨kz0, kz1, kz2, kz3, kz4, kz5⟩ := c6 BK5.out; have lt8 := blk_lt BA5.out; have lt9 := blk_lt BX5.out; have lt10 := blk_lt BK5.out)
          rw [HSET.out]
          exact bodyPost_ret (ret60 rfl rfl (set12 BA5.out)) rfl (doneI HS5.out (KT.below HW5.out) BA5.out (by omega) (by omega) (codeA 5))
      · have HRE : Aside0 (rc = 0 ∧ rT = ⟨ps ++ [⟨kV, ⟨v0, v1, v2, v3, v4⟩, tn + 1⟩], tn + 1⟩) := ⟨by have := RR.out.trans ((if_neg (by omega)).trans ((if_neg hv).trans (if_neg hf))); exact ⟨congrArg Prod.fst this, congrArg Prod.snd this⟩⟩
        have hqn : (ps.length == 500) = false := beq_eq_false_iff_ne.mpr (by omega)
        have hqi : ((ps.length : Int) == 500) = false := beq_eq_false_iff_ne.mpr (by omega)
        have ht : (tn == 1000000000000) = false := beq_eq_false_iff_ne.mpr (by omega)
        have htn0 : 0 ≤ tn := HT0.out
        have htn : tn + 1 ≤ 1000000000000 := by have := HT1.out; omega
        obtain ⟨rfl, rfl⟩ := HRE.out
        clear hf RR HRE
        go_wp2_with (go_at_call 44; refine (HT.out _ _ _ hx0 HC.out).mono ?_; rintro e w5 ⟨rfl, hb⟩; have HQ := Aside0.mk hb; have HW5 := Aside0.mk (below_step HW4.out hb); have BX5 := Aside0.mk (blk_below BX4.out hb); have BA5 := Aside0.mk (blk_below BA4.out hb); have BK5 := Aside0.mk (blk_below BK4.out hb); have HS5 := Aside0.mk (HS4.out.below hb); have yx0 := (hb.cell lt7).trans hx0; have yx1 := (hb.cell (p := ⟨g, x1.toNat * 2 + 1, none⟩) lt7).trans hx1; have yf0 := (hb.frozen (p := ⟨g, x1.toNat * 2, none⟩) lt7).trans hf0; have yf1 := (hb.frozen (p := ⟨g, x1.toNat * 2 + 1, none⟩) lt7).trans hf1; clear hb xz0 xz1 xz2 xz3 xz4 xz5 xz6 xz7 xz8 xz9 xz10 xz11 xz12 xz13 az0 az1 az2 az3 az4 az5 az6 az7 az8 az9 az10 az11 af0 af1 af2 af3 af4 af5 af6 af7 af8 af9 af10 af11 kz0 kz1 kz2 kz3 kz4 kz5; obtain ⟨xz0, xz1, xz2, xz3, xz4, xz5, xz6, xz7, xz8, xz9, xz10, xz11, xz12, xz13⟩ := c14 BX5.out; obtain ⟨⟨az0, az1, az2, az3, az4, az5, az6, az7, az8, az9, az10, az11⟩, af0, af1, af2, af3, af4, af5, af6, af7, af8, af9, af10, af11⟩ := c12 BA5.out; obtain ⟨kz0, kz1, kz2, kz3, kz4, kz5⟩ := c6 BK5.out; have lt8 := blk_lt BA5.out; have lt9 := blk_lt BX5.out; have lt10 := blk_lt BK5.out)
        obtain ⟨W6, e6⟩ : ∃ W6, W6 = w5.setCell ⟨g, x1.toNat * 2 + 1, none⟩ (.int .i64 (tn + 1)) := ⟨_, rfl⟩
        obtain ⟨ok2, pv2, hR2, hy0, hy1, hyf, hPUT2⟩ := HL2.out w5 HS5.out.T W6 e6
        obtain rfl : .slice A0 ps.length c0 = pv2 := Option.some.inj (yx0.symm.trans hy1)
        have hk6 : KT [78, 88] w5 W6 := by rw [e6]; exact KT.set (blk_below GC.out HQ.out) (by simp) _
        have HB6 := Aside0.mk (show Below base w0 W6 by rw [e6]; exact HS5.out.B.setCell HGB.out _)
        have BX6 := Aside0.mk (hk6.blk BX5.out (by decide))
        have BA6 := Aside0.mk (hk6.blk BA5.out (by decide))
        have BK6 := Aside0.mk (hk6.blk BK5.out (by decide))
        have s11 : W6.cell? ⟨g, x1.toNat * 2 + 1, none⟩ = some (.int .i64 (tn + 1)) := by rw [e6]; exact World.cell?_setCell_same _ _ _ yx1
        obtain ⟨hc6, hb6⟩ : ∃ cs, W6.heap[g]? = some (Obj.cells cs 78 (0, 0)) := by rw [e6]; exact ⟨_, blk_set (blk_below GC.out HQ.out) _ _⟩
        have HB6g := Aside0.mk hb6
        have NG := Aside0.mk (Kd.R_ne hR2 hb6 (by decide))
        have NK := Aside0.mk (Kd.R_ne hR2 BK6.out (by decide))
        have NX := Aside0.mk (Kd.R_ne hR2 BX6.out (by decide))
        have HR6 := Aside0.mk hR2
        have HP6 := Aside0.mk hPUT2
        have HK6 := Aside0.mk hk6
        have HSZ := Aside0.mk (show base ≤ W6.heap.size from Nat.le_trans HS5.out.le hk6.1)
        have QW : Aside0 (IntKind.i64.wrap (tn + 1) = tn + 1) := ⟨IntWalk.i64_in _ ⟨by omega, by omega⟩⟩
        have nk : g ≠ gK := by omega
        have nx : g ≠ w.heap.size := by omega
        rw [← e6]
        clear e6 hR2 hPUT2 hk6 hb6 hy1 xz0 xz1 xz2 xz3 xz4 xz5 xz6 xz7 xz8 xz9 xz10 xz11 xz12 xz13 az0 az1 az2 az3 az4 az5 az6 az7 az8 az9 az10 az11 af0 af1 af2 af3 af4 af5 af6 af7 af8 af9 af10 af11 kz0 kz1 kz2 kz3 kz4 kz5 yx0 yx1 yf0 yf1 lt8 lt9 lt10 HPUT HR HL2
        obtain ⟨_, _, _, _, _, _, _, _, _, s6, s7, s8, s9, s10⟩ := c14 BX6.out
        obtain ⟨_, s1, s2, s3, s4, s5⟩ := c6 BK6.out
        obtain ⟨⟨az0, az1, az2, az3, az4, az5, az6, az7, az8, az9, az10, az11⟩, af0, af1, af2, af3, af4, af5, af6, af7, af8, af9, af10, af11⟩ := c12 BA6.out
        have lt8 := blk_lt BA6.out
        have lt9 := blk_lt BX6.out
        have lt10 := blk_lt BK6.out
        have LG : g < W6.heap.size := blk_lt HB6g.out
        refine wp_region_held_drew (S := (fun w' => w'.cell? ⟨gK, 1, none⟩ = some (.int .i64 kV.f0) ∧ w'.cell? ⟨gK, 2, none⟩ = some (.int .i64 kV.f1) ∧ w'.cell? ⟨gK, 3, none⟩ = some (.float .f64 kV.f2) ∧ w'.cell? ⟨gK, 4, none⟩ = some (.string kV.f3) ∧ w'.cell? ⟨gK, 5, none⟩ = some (.int .i64 kV.f4) ∧ w'.cell? ⟨w.heap.size, 9, none⟩ = some (.int .i64 v0) ∧ w'.cell? ⟨w.heap.size, 10, none⟩ = some (.int .i64 v1) ∧ w'.cell? ⟨w.heap.size, 11, none⟩ = some (.float .f64 v2) ∧ w'.cell? ⟨w.heap.size, 12, none⟩ = some (.string v3) ∧ w'.cell? ⟨w.heap.size, 13, none⟩ = some (.int .i64 v4) ∧ w'.cell? ⟨g, x1.toNat * 2 + 1, none⟩ = some (.int .i64 (tn + 1)))) (by kernel_rfl) (by go_keep) (fun hHeld => ?_)
        refine wpAnyH_take (i := 0) (v := ?_) rfl (by kernel_rfl) (by kernel_rfl) (by kernel_rfl) (fun _ _ _ h => h) (Or.inl ⟨by rfl, ?_⟩) (by assumption) ?_
        rotate_left
        · intro w' hSw; go_simp; try with_reducible rfl
        try simp only [List.getElem_toArray, List.getElem_cons_zero, List.getElem_cons_succ, Act.put, List.setIfInBounds_toArray, List.set_cons_zero, List.set_cons_succ]
        refine wpAnyH_take (i := 1) (v := ?_) rfl (by kernel_rfl) (by kernel_rfl) (by kernel_rfl) (fun _ _ _ h => h) (Or.inl ⟨by rfl, ?_⟩) (by assumption) ?_
        rotate_left
        · intro w' hSw; go_simp; try with_reducible rfl
        try simp only [List.getElem_toArray, List.getElem_cons_zero, List.getElem_cons_succ, Act.put, List.setIfInBounds_toArray, List.set_cons_zero, List.set_cons_succ]
        refine wpAnyH_take (i := 2) (v := ?_) rfl (by kernel_rfl) (by kernel_rfl) (by kernel_rfl) (fun _ _ _ h => h) (Or.inl ⟨by rfl, ?_⟩) (by assumption) ?_
        rotate_left
        · intro w' hSw; go_simp; try with_reducible rfl
        try simp only [List.getElem_toArray, List.getElem_cons_zero, List.getElem_cons_succ, Act.put, List.setIfInBounds_toArray, List.set_cons_zero, List.set_cons_succ]
        refine wpAnyH_take (i := 3) (v := ?_) rfl (by kernel_rfl) (by kernel_rfl) (by kernel_rfl) (fun _ _ _ h => h) (Or.inl ⟨by rfl, ?_⟩) (by assumption) ?_
        rotate_left
        · intro w' hSw; go_simp; try with_reducible rfl
        try simp only [List.getElem_toArray, List.getElem_cons_zero, List.getElem_cons_succ, Act.put, List.setIfInBounds_toArray, List.set_cons_zero, List.set_cons_succ]
        refine wpAnyH_take (i := 5) (v := ?_) rfl (by kernel_rfl) (by kernel_rfl) (by kernel_rfl) (fun _ _ _ h => h) (Or.inl ⟨by rfl, ?_⟩) (by assumption) ?_
        rotate_left
        · intro w' hSw; go_simp; try with_reducible rfl
        try simp only [List.getElem_toArray, List.getElem_cons_zero, List.getElem_cons_succ, Act.put, List.setIfInBounds_toArray, List.set_cons_zero, List.set_cons_succ]
        refine wpAnyH_take (i := 6) (v := ?_) rfl (by kernel_rfl) (by kernel_rfl) (by kernel_rfl) (fun _ _ _ h => h) (Or.inl ⟨by rfl, ?_⟩) (by assumption) ?_
        rotate_left
        · intro w' hSw; go_simp; try with_reducible rfl
        try simp only [List.getElem_toArray, List.getElem_cons_zero, List.getElem_cons_succ, Act.put, List.setIfInBounds_toArray, List.set_cons_zero, List.set_cons_succ]
        refine wpAnyH_take (i := 7) (v := ?_) rfl (by kernel_rfl) (by kernel_rfl) (by kernel_rfl) (fun _ _ _ h => h) (Or.inl ⟨by rfl, ?_⟩) (by assumption) ?_
        rotate_left
        · intro w' hSw; go_simp; try with_reducible rfl
        try simp only [List.getElem_toArray, List.getElem_cons_zero, List.getElem_cons_succ, Act.put, List.setIfInBounds_toArray, List.set_cons_zero, List.set_cons_succ]
        refine wpAnyH_take (i := 8) (v := ?_) rfl (by kernel_rfl) (by kernel_rfl) (by kernel_rfl) (fun _ _ _ h => h) (Or.inl ⟨by rfl, ?_⟩) (by assumption) ?_
        rotate_left
        · intro w' hSw; go_simp; try with_reducible rfl
        try simp only [List.getElem_toArray, List.getElem_cons_zero, List.getElem_cons_succ, Act.put, List.setIfInBounds_toArray, List.set_cons_zero, List.set_cons_succ]
        refine wpAnyH_take (i := 9) (v := ?_) rfl (by kernel_rfl) (by kernel_rfl) (by kernel_rfl) (fun _ _ _ h => h) (Or.inl ⟨by rfl, ?_⟩) (by assumption) ?_
        rotate_left
        · intro w' hSw; go_simp; try with_reducible rfl
        try simp only [List.getElem_toArray, List.getElem_cons_zero, List.getElem_cons_succ, Act.put, List.setIfInBounds_toArray, List.set_cons_zero, List.set_cons_succ]
        refine wpAnyH_take (i := 10) (v := ?_) rfl (by kernel_rfl) (by kernel_rfl) (by kernel_rfl) (fun _ _ _ h => h) (Or.inl ⟨by rfl, ?_⟩) (by assumption) ?_
        rotate_left
        · intro w' hSw; go_simp; try with_reducible rfl
        try simp only [List.getElem_toArray, List.getElem_cons_zero, List.getElem_cons_succ, Act.put, List.setIfInBounds_toArray, List.set_cons_zero, List.set_cons_succ]
        refine wpAnyH_take (i := 11) (v := ?_) rfl (by kernel_rfl) (by kernel_rfl) (by kernel_rfl) (fun _ _ _ h => h) (Or.inl ⟨by rfl, ?_⟩) (by assumption) ?_
        rotate_left
        · intro w' hSw; go_simp; try with_reducible rfl
        try simp only [List.getElem_toArray, List.getElem_cons_zero, List.getElem_cons_succ, Act.put, List.setIfInBounds_toArray, List.set_cons_zero, List.set_cons_succ]
        refine wpAnyH_take (i := 12) (v := ?_) rfl (by kernel_rfl) (by kernel_rfl) (by kernel_rfl) (fun _ _ _ h => h) (Or.inl ⟨by rfl, ?_⟩) (by assumption) ?_
        rotate_left
        · intro w' hSw; go_simp; try with_reducible rfl
        try simp only [List.getElem_toArray, List.getElem_cons_zero, List.getElem_cons_succ, Act.put, List.setIfInBounds_toArray, List.set_cons_zero, List.set_cons_succ]
        refine wpAnyH_take (i := 13) (v := ?_) rfl (by kernel_rfl) (by kernel_rfl) (by kernel_rfl) (fun _ _ _ h => h) (Or.inl ⟨by rfl, ?_⟩) (by assumption) ?_
        rotate_left
        · intro w' hSw; go_simp; try with_reducible rfl
        try simp only [List.getElem_toArray, List.getElem_cons_zero, List.getElem_cons_succ, Act.put, List.setIfInBounds_toArray, List.set_cons_zero, List.set_cons_succ]
        refine wpAnyH_ready (rs := [4, 14]) (by kernel_rfl) (by simp) ?_
        refine AllReadyH.cons rfl (fun K hK => ?_) (AllReadyH.cons rfl (fun K hK => ?_) AllReadyH.nil)
        go_simp
        refine hK.out _ _ (by go_keep) (fun hHeld => ?_)
        try simp only [List.getElem_toArray, List.getElem_cons_zero, List.getElem_cons_succ, Act.put, List.setIfInBounds_toArray, List.set_cons_zero, List.set_cons_succ]
        refine wpAnyH_ready (rs := [14]) (by kernel_rfl) (by simp) ?_
        refine AllReadyH.cons rfl (fun K hK => ?_) AllReadyH.nil
        go_simp
        refine hK.out _ _ (by go_keep) (fun hHeld => ?_)
        try simp only [List.getElem_toArray, List.getElem_cons_zero, List.getElem_cons_succ, Act.put, List.setIfInBounds_toArray, List.set_cons_zero, List.set_cons_succ]
        rotate_left
        go_simp
        refine hK.out _ _ (by go_keep) (fun hHeld => ?_)
        try simp only [List.getElem_toArray, List.getElem_cons_zero, List.getElem_cons_succ, Act.put, List.setIfInBounds_toArray, List.set_cons_zero, List.set_cons_succ]
        refine wpAnyH_ready (rs := [4]) (by kernel_rfl) (by simp) ?_
        refine AllReadyH.cons rfl (fun K hK => ?_) AllReadyH.nil
        go_simp
        refine hK.out _ _ (by go_keep) (fun hHeld => ?_)
        try simp only [List.getElem_toArray, List.getElem_cons_zero, List.getElem_cons_succ, Act.put, List.setIfInBounds_toArray, List.set_cons_zero, List.set_cons_succ]
        all_goals
          refine wpAnyH_ready (rs := [15]) (by kernel_rfl) (by simp) ?_
          refine AllReadyH.cons rfl (fun K hK => ?_) AllReadyH.nil
          simp only [List.getElem_toArray, List.getElem_cons_zero, List.getElem_cons_succ]
          (((try rw [QW.out]); (rw [alloc_drew]); refine Kd.R_append_step k88 (w0 := w0) (W := W6.drew) (a := ⟨_, _⟩) base (by rfl) (.tmp 159) (.tmp 169) 76 88 (.agg #[.int .i64 0, .int .i64 0, .float .f64 0, .string ⟨#[]⟩, .int .i64 0, .int .i64 0, .int .i64 0, .float .f64 0, .string ⟨#[]⟩, .int .i64 0, .int .i64 0]) 104 (by rfl) Tryd.underlying76 info88t (by rfl) (by decide) (by decide) (.slice A0 ps.length c0) ps ⟨kV, ⟨v0, v1, v2, v3, v4⟩, tn + 1⟩ [.int .i64 kV.f0, .int .i64 kV.f1, .float .f64 kV.f2, .string kV.f3, .int .i64 kV.f4, .int .i64 v0, .int .i64 v1, .float .f64 v2, .string v3, .int .i64 v4, .int .i64 (tn + 1)] (fun k => ok2 k ∨ W6.heap.size ≤ k) (fun _ => False) (by first | rfl | simp [Act.eval, Act.put]) (by first | rfl | simp [Act.eval, Act.put]) (k88_mkM _ _ _ ⟨kV, ⟨v0, v1, v2, v3, v4⟩, tn + 1⟩) (fun _ hk => hk.elim) (fun _ hk => .inr hk) (Kd.R_mono (Kd.R_drew HR6.out) (fun _ hk => .inl hk)) (below_drew HB6.out) HSZ.out (by have := H5.out; omega) ?_; intro lv w7 hr7 hb7 hg7 _; obtain ⟨lA, lc, le⟩ := Kd.R_slice hr7; subst le; have cz := hg7.cell (show W6.drew.cell? ⟨g, x1.toNat * 2, none⟩ = _ from hy0) NG.out; have fz := (World.frozen?_of_block (a := ⟨g, x1.toNat * 2, none⟩) (hg7.block g LG NG.out)).trans hyf; have HR7 := Aside0.mk hr7; have HB7 := Aside0.mk hb7; have HG3 := Aside0.mk hg7; clear hr7 hb7 hg7))
          refine hK.out _ _ (by exact ⟨HG3.out.cell (show W6.drew.cell? ⟨gK, 1, none⟩ = _ from s1) NK.out, HG3.out.cell (show W6.drew.cell? ⟨gK, 2, none⟩ = _ from s2) NK.out, HG3.out.cell (show W6.drew.cell? ⟨gK, 3, none⟩ = _ from s3) NK.out, HG3.out.cell (show W6.drew.cell? ⟨gK, 4, none⟩ = _ from s4) NK.out, HG3.out.cell (show W6.drew.cell? ⟨gK, 5, none⟩ = _ from s5) NK.out, HG3.out.cell (show W6.drew.cell? ⟨w.heap.size, 9, none⟩ = _ from s6) NX.out, HG3.out.cell (show W6.drew.cell? ⟨w.heap.size, 10, none⟩ = _ from s7) NX.out, HG3.out.cell (show W6.drew.cell? ⟨w.heap.size, 11, none⟩ = _ from s8) NX.out, HG3.out.cell (show W6.drew.cell? ⟨w.heap.size, 12, none⟩ = _ from s9) NX.out, HG3.out.cell (show W6.drew.cell? ⟨w.heap.size, 13, none⟩ = _ from s10) NX.out, HG3.out.cell (show W6.drew.cell? ⟨g, x1.toNat * 2 + 1, none⟩ = _ from s11) NG.out⟩) (fun hHeld => ?_)
          try simp only [List.getElem_toArray, List.getElem_cons_zero, List.getElem_cons_succ, Act.put, List.setIfInBounds_toArray, List.set_cons_zero, List.set_cons_succ]
          refine wpAnyH_take (i := 16) (v := ?_) rfl (by kernel_rfl) (by kernel_rfl) (by kernel_rfl) (fun _ _ _ h => h) (Or.inl ⟨by rfl, ?_⟩) (by assumption) ?_
          rotate_left
          · intro w' hSw; go_simp; try with_reducible rfl
          try simp only [List.getElem_toArray, List.getElem_cons_zero, List.getElem_cons_succ, Act.put, List.setIfInBounds_toArray, List.set_cons_zero, List.set_cons_succ]
          refine wpAnyH_take (i := 17) (v := ?_) rfl (by kernel_rfl) (by kernel_rfl) (by kernel_rfl) (fun _ _ _ h => h) (Or.inl ⟨by rfl, ?_⟩) (by assumption) ?_
          rotate_left
          · intro w' hSw; go_simp; try with_reducible rfl
          try simp only [List.getElem_toArray, List.getElem_cons_zero, List.getElem_cons_succ, Act.put, List.setIfInBounds_toArray, List.set_cons_zero, List.set_cons_succ]
          refine wpAnyH_ready (rs := [18]) (by kernel_rfl) (by simp) ?_
          refine AllReadyH.cons rfl (fun K hK => ?_) AllReadyH.nil
          go_simp
          refine hK.out _ _ (by exact ⟨(World.cell?_setCell_other _ _ _ _ (fun e => nk (by injection e))).trans hHeld.1, (World.cell?_setCell_other _ _ _ _ (fun e => nk (by injection e))).trans hHeld.2.1, (World.cell?_setCell_other _ _ _ _ (fun e => nk (by injection e))).trans hHeld.2.2.1, (World.cell?_setCell_other _ _ _ _ (fun e => nk (by injection e))).trans hHeld.2.2.2.1, (World.cell?_setCell_other _ _ _ _ (fun e => nk (by injection e))).trans hHeld.2.2.2.2.1, (World.cell?_setCell_other _ _ _ _ (fun e => nx (by injection e))).trans hHeld.2.2.2.2.2.1, (World.cell?_setCell_other _ _ _ _ (fun e => nx (by injection e))).trans hHeld.2.2.2.2.2.2.1, (World.cell?_setCell_other _ _ _ _ (fun e => nx (by injection e))).trans hHeld.2.2.2.2.2.2.2.1, (World.cell?_setCell_other _ _ _ _ (fun e => nx (by injection e))).trans hHeld.2.2.2.2.2.2.2.2.1, (World.cell?_setCell_other _ _ _ _ (fun e => nx (by injection e))).trans hHeld.2.2.2.2.2.2.2.2.2.1, (World.cell?_setCell_other _ _ _ _ (by intro e; injection e with _ e; omega)).trans hHeld.2.2.2.2.2.2.2.2.2.2⟩) (fun hHeld => ?_)
          try simp only [List.getElem_toArray, List.getElem_cons_zero, List.getElem_cons_succ, Act.put, List.setIfInBounds_toArray, List.set_cons_zero, List.set_cons_succ]
          refine wpAnyH_done (by kernel_rfl) ?_ _
          have hg7 := grown_drew HG3.out
          have hk7 : KT [78, 88] W6 w7 := KT.grown hg7 (fun k hk => by obtain ⟨cs, hc⟩ := Kd.R_typed HR6.out k hk; exact ⟨cs, _, hc, by simp⟩)
          have hk8 := (HK6.out.trans hk7).trans (KT.set (j := x1.toNat * 2) ((hg7.block g LG NG.out).trans HB6g.out) (by simp) (.slice lA (ps ++ [(⟨kV, ⟨v0, v1, v2, v3, v4⟩, tn + 1⟩ : S88)]).length lc))
          have BA7 := Aside0.mk (hk7.blk BA6.out (by decide))
          have BA8 := Aside0.mk (hk8.blk BA5.out (by decide))
          have HS8 := Aside0.mk (HS5.out.tabs hk8 (HB7.out.setCell HGB.out _) (HP6.out w7 hg7.size (fun k hk hn => hg7.block k hk (fun e => hn (HR6.out.1 k e.symm))) _ _ HR7.out))
          have HK8 := Aside0.mk ((KT.below (L := stI) HW5.out).trans (hk8.mono (by decide)))
          clear hg7 hk7 hk8 s1 s2 s3 s4 s5 s6 s7 s8 s9 s10 s11 az0 az1 az2 az3 az4 az5 az6 az7 az8 az9 az10 az11 af0 af1 af2 af3 af4 af5 af6 af7 af8 af9 af10 af11
          obtain ⟨⟨az0, az1, az2, az3, az4, az5, az6, az7, az8, az9, az10, az11⟩, af0, af1, af2, af3, af4, af5, af6, af7, af8, af9, af10, af11⟩ := c12 BA7.out
          have lt11 := blk_lt BA7.out
          rw [show (ps ++ [(⟨kV, ⟨v0, v1, v2, v3, v4⟩, tn + 1⟩ : S88)]).length = ps.length + 1 by simp] at BA8 HS8 HK8
          go_wp2
          exact bodyPost_ret (ret60 rfl rfl (set12 BA8.out)) rfl (doneI HS8.out HK8.out BA8.out (by omega) (by omega) (codeA 0))
  · obtain ⟨m, rfl⟩ : ∃ m : Nat, i = (m : Int) := ⟨i.toNat, by omega⟩
    have hml : m < ps.length := by omega
    obtain ⟨gp, cp, he, hgb, hgl, pcs, hpc⟩ := Kd.R_form HR.out (by omega)
    injection he with he1 _ he3
    subst he1; subst he3
    have PC := Aside0.mk hpc
    have OK := Aside0.mk (HR.out.1 gp (by simp [Value.ownBlock]))
    have hq0 : 0 ≤ (m : Int) := by omega
    have hq1 : (m : Int) < (ps.length : Int) := by omega
    have NGP : Aside0 (some g ≠ some gp) := ⟨Kd.R_ne HR.out GC.out (by decide)⟩
    have ngp : gp ≠ g := fun e => NGP.out (by rw [e])
    have nap : gp ≠ w.heap.size + 1 := fun e => Kd.R_ne HR.out BA4.out (by decide) (by rw [← e]; rfl)
    have nxp : gp ≠ w.heap.size := fun e => Kd.R_ne HR.out BX4.out (by decide) (by rw [← e]; rfl)
    have nap2 : ¬ gp = w.heap.size + 1 := nap
    clear hpc
    by_cases hv : v0 = 0
    · have hvb : (v0 == 0) = true := by rw [hv]; rfl
      have HRE : Aside0 (rc = 0 ∧ rT = ⟨ps.eraseIdx m, tn⟩) := ⟨by have := RR.out.trans ((if_pos (by omega)).trans (if_pos hv)); exact ⟨congrArg Prod.fst this, congrArg Prod.snd this⟩⟩
      obtain ⟨rfl, rfl⟩ := HRE.out
      clear RR HRE
      have HDEL : Aside0 (∀ w5, Below W2.heap.size W2 w5 → Below base w0 w5 → base ≤ w5.heap.size → Calls Tryd.prog 45 #[.slice (some ⟨gp, 0, none⟩) ps.length c0, .int .i64 (m : Int), .int .i64 ((m : Int) + 1)] w5 fun e w' => e = .returned (.slice (some ⟨gp, 0, none⟩) (ps.length - 1) c0) ∧
          Kd.R k88 88 w' base (fun _ => True) (.slice (some ⟨gp, 0, none⟩) (ps.length - 1) c0) (ps.eraseIdx m) ∧ Below base w0 w' ∧ w5.grownBy w' (some gp)) := ⟨fun w5 hb hB hle => by
        have := del_calls ps gp c0 m base w0 w5 hB hle hml (Kd.R_mono (Kd.R_below HR.out hb) (fun _ _ => trivial))
        rwa [show ((m + 1 : Nat) : Int) = (m : Int) + 1 from rfl] at this⟩
      go_wp2_with (first | (go_at_call 44; refine (HT.out _ _ _ hx0 HC.out).mono ?_; rintro e w5 ⟨rfl, hb⟩; have HQ := Aside0.mk hb; have HW5 := Aside0.mk (below_step HW4.out hb); have BX5 := Aside0.mk (blk_below BX4.out hb); have BA5 := Aside0.mk (blk_below BA4.out hb); have BK5 := Aside0.mk (blk_below BK4.out hb); have HS5 := Aside0.mk (HS4.out.below hb); have yx0 := (hb.cell lt7).trans hx0; have yx1 := (hb.cell (p := ⟨g, x1.toNat * 2 + 1, none⟩) lt7).trans hx1; have yf0 := (hb.frozen (p := ⟨g, x1.toNat * 2, none⟩) lt7).trans hf0; have yf1 := (hb.frozen (p := ⟨g, x1.toNat * 2 + 1, none⟩) lt7).trans hf1; clear hb xz0 xz1 xz2 xz3 xz4 xz5 xz6 xz7 xz8 xz9 xz10 xz11 xz12 xz13 az0 az1 az2 az3 az4 az5 az6 az7 az8 az9 az10 az11 af0 af1 af2 af3 af4 af5 af6 af7 af8 af9 af10 af11 kz0 kz1 kz2 kz3 kz4 kz5; obtain ⟨xz0, xz1, xz2, xz3, xz4, xz5, xz6, xz7, xz8, xz9, xz10, xz11, xz12, xz13⟩ := c14 BX5.out; obtain ⟨⟨az0, az1, az2, az3, az4, az5, az6, az7, az8, az9, az10, az11⟩, af0, af1, af2, af3, af4, af5, af6, af7, af8, af9, af10, af11⟩ := c12 BA5.out; obtain ⟨kz0, kz1, kz2, kz3, kz4, kz5⟩ := c6 BK5.out; have lt8 := blk_lt BA5.out; have lt9 := blk_lt BX5.out; have lt10 := blk_lt BK5.out) | (go_at_call 45; refine (HDEL.out _ HQ.out HS5.out.B HS5.out.le).mono ?_; rintro e w6 ⟨rfl, hr6, hb6, hg6⟩; have LG5 := blk_lt (blk_below GC.out HQ.out); have cz := hg6.cell yx0 NGP.out; have fz := (World.frozen?_of_block (a := ⟨g, x1.toNat * 2, none⟩) (hg6.block g LG5 NGP.out)).trans yf0; have HG6 := Aside0.mk ((hg6.block g LG5 NGP.out).trans (blk_below GC.out HQ.out)); have HK6 := Aside0.mk (show KT [78, 88] w5 w6 from KT.grown hg6 (fun k hk => by injection hk with hk; subst hk; exact ⟨pcs, _, blk_below PC.out HQ.out, by simp⟩)); have HR6 := Aside0.mk hr6; have HB6 := Aside0.mk hb6; have HN6 := Aside0.mk hg6; have BA6 := Aside0.mk (HK6.out.blk BA5.out (by decide)); clear hr6 hb6 hg6 yx0 yf0 az0 az1 az2 az3 az4 az5 az6 az7 az8 az9 az10 az11 af0 af1 af2 af3 af4 af5 af6 af7 af8 af9 af10 af11; obtain ⟨⟨az0, az1, az2, az3, az4, az5, az6, az7, az8, az9, az10, az11⟩, af0, af1, af2, af3, af4, af5, af6, af7, af8, af9, af10, af11⟩ := c12 BA6.out; have lt11 := blk_lt BA6.out))
      have hk7 := HK6.out.trans (KT.set (j := x1.toNat * 2) HG6.out (by simp) (.slice (some ⟨gp, 0, none⟩) (ps.length - 1) c0))
      have hT7 := (HPUT.out w6 (Nat.le_trans HQ.out.size HN6.out.size) (fun k hk hn => (HN6.out.block k (Nat.lt_of_lt_of_le hk HQ.out.size) (fun e => hn (by injection e with e; subst e; exact OK.out))).trans (HQ.out.block k hk)) _ _ (Kd.R_reok (ok := fun k => oki k ∨ W2.heap.size ≤ k) rfl HR6.out (fun k hk => .inl (by injection hk with hk; subst hk; exact OK.out)))).2
      exact bodyPost_ret (ret60 rfl rfl (set12 (hk7.blk BA5.out (by decide)))) rfl (doneI (HS5.out.tabs hk7 (HB6.out.setCell HGB.out _) hT7) ((KT.below (L := stI) HW5.out).trans (hk7.mono (by decide))) (hk7.blk BA5.out (by decide)) (by omega) (by omega) (codeA 0))
    · have hvb : (v0 == 0) = false := beq_eq_false_iff_ne.mpr hv
      have HRE : Aside0 (rc = 0 ∧ rT = ⟨ps.set m ⟨(rd_T88 ps m).f0, ⟨v0, v1, v2, v3, v4⟩, (rd_T88 ps m).f2⟩, tn⟩) := ⟨by have := RR.out.trans ((if_pos (by omega)).trans (if_neg hv)); exact ⟨congrArg Prod.fst this, congrArg Prod.snd this⟩⟩
      obtain ⟨rfl, rfl⟩ := HRE.out
      clear RR HRE
      have HP := Aside0.mk (fun W1 (hb : Below W2.heap.size W2 W1) => P_val (Kd.R_below HR.out hb) m hml ⟨v0, v1, v2, v3, v4⟩)
      clear hml
      go_wp2_with (go_at_call 44; refine (HT.out _ _ _ hx0 HC.out).mono ?_; rintro e w5 ⟨rfl, hb⟩; have HQ := Aside0.mk hb; have HW5 := Aside0.mk (below_step HW4.out hb); have BX5 := Aside0.mk (blk_below BX4.out hb); have BA5 := Aside0.mk (blk_below BA4.out hb); have BK5 := Aside0.mk (blk_below BK4.out hb); have HS5 := Aside0.mk (HS4.out.below hb); have yx0 := (hb.cell lt7).trans hx0; have yx1 := (hb.cell (p := ⟨g, x1.toNat * 2 + 1, none⟩) lt7).trans hx1; have yf0 := (hb.frozen (p := ⟨g, x1.toNat * 2, none⟩) lt7).trans hf0; have yf1 := (hb.frozen (p := ⟨g, x1.toNat * 2 + 1, none⟩) lt7).trans hf1; clear hb xz0 xz1 xz2 xz3 xz4 xz5 xz6 xz7 xz8 xz9 xz10 xz11 xz12 xz13 az0 az1 az2 az3 az4 az5 az6 az7 az8 az9 az10 az11 af0 af1 af2 af3 af4 af5 af6 af7 af8 af9 af10 af11 kz0 kz1 kz2 kz3 kz4 kz5; obtain ⟨xz0, xz1, xz2, xz3, xz4, xz5, xz6, xz7, xz8, xz9, xz10, xz11, xz12, xz13⟩ := c14 BX5.out; obtain ⟨⟨az0, az1, az2, az3, az4, az5, az6, az7, az8, az9, az10, az11⟩, af0, af1, af2, af3, af4, af5, af6, af7, af8, af9, af10, af11⟩ := c12 BA5.out; obtain ⟨kz0, kz1, kz2, kz3, kz4, kz5⟩ := c6 BK5.out; have lt8 := blk_lt BA5.out; have lt9 := blk_lt BX5.out; have lt10 := blk_lt BK5.out; obtain ⟨hv1, hv2, hv3, hv4⟩ := HP.out w5 HQ.out; have HV1 := Aside0.mk hv1; have HV2 := Aside0.mk hv2; have pf5 := hv3 5; have pf6 := hv3 6; have pf7 := hv3 7; have pf8 := hv3 8; have pf9 := hv3 9; obtain ⟨u5, pz5⟩ := hv4 5 (by omega); obtain ⟨u6, pz6⟩ := hv4 6 (by omega); obtain ⟨u7, pz7⟩ := hv4 7 (by omega); obtain ⟨u8, pz8⟩ := hv4 8 (by omega); obtain ⟨u9, pz9⟩ := hv4 9 (by omega); clear hv1 hv2 hv3 hv4)
      obtain ⟨_, _, _, _, _, _, _, _, _, s6, s7, s8, s9, s10⟩ := c14 BX5.out
      go_region_held3 (fun w' => w'.cell? ⟨g, x1.toNat * 2, none⟩ = some (.slice (some ⟨gp, 0, none⟩) ps.length c0) ∧ w'.cell? ⟨w.heap.size, 9, none⟩ = some (.int .i64 v0) ∧ w'.cell? ⟨w.heap.size, 10, none⟩ = some (.int .i64 v1) ∧ w'.cell? ⟨w.heap.size, 11, none⟩ = some (.float .f64 v2) ∧ w'.cell? ⟨w.heap.size, 12, none⟩ = some (.string v3) ∧ w'.cell? ⟨w.heap.size, 13, none⟩ = some (.int .i64 v4)) (go_keep) (fail)
      obtain ⟨W9, e9⟩ : ∃ W9, W9 = (((((w5.setCell ⟨gp, m * 11 + 5, none⟩ (.int .i64 v0)).setCell ⟨gp, m * 11 + 5 + 1, none⟩ (.int .i64 v1)).setCell ⟨gp, m * 11 + 5 + 2, none⟩ (.float .f64 v2)).setCell ⟨gp, m * 11 + 5 + 3, none⟩ (.string v3)).setCell ⟨gp, m * 11 + 5 + 4, none⟩ (.int .i64 v4)).drew := ⟨_, rfl⟩
      have hg9 : w5.grownBy W9 (some gp) := by rw [e9]; exact grown_drew' HV2.out
      have hr9 := Kd.R_drew HV1.out
      have hr9 : k88.R 88 W9 base oki (.slice (some ⟨gp, 0, none⟩) ps.length c0) (ps.set m ⟨(rd_T88 ps m).f0, ⟨v0, v1, v2, v3, v4⟩, (rd_T88 ps m).f2⟩) := by rw [e9]; exact hr9
      have hk9 : KT [78, 88] w5 W9 := KT.grown hg9 (fun k hk => by injection hk with hk; subst hk; exact ⟨pcs, _, blk_below PC.out HQ.out, by simp⟩)
      have hT9 := (HPUT.out W9 (Nat.le_trans HQ.out.size hg9.size) (fun k hk hn => (hg9.block k (Nat.lt_of_lt_of_le hk HQ.out.size) (fun e => hn (by injection e with e; subst e; exact OK.out))).trans (HQ.out.block k hk)) _ _ (Kd.R_mono hr9 (fun k hk => .inl hk))).1 rfl
      have HS9 := Aside0.mk (HS5.out.tabs hk9 (HS5.out.B.grown hg9 HS5.out.le (fun k hk => by injection hk with hk; subst hk; exact hgb)) hT9)
      have HK9 := Aside0.mk ((KT.below (L := stI) HW5.out).trans (hk9.mono (by decide)))
      have BA9 := Aside0.mk (hk9.blk BA5.out (by decide))
      rw [← e9]
      clear e9 hg9 hr9 hk9 hT9 HV1 HV2 HP pf5 pf6 pf7 pf8 pf9 pz5 pz6 pz7 pz8 pz9 s6 s7 s8 s9 s10 xz0 xz1 xz2 xz3 xz4 xz5 xz6 xz7 xz8 xz9 xz10 xz11 xz12 xz13 az0 az1 az2 az3 az4 az5 az6 az7 az8 az9 az10 az11 af0 af1 af2 af3 af4 af5 af6 af7 af8 af9 af10 af11 kz0 kz1 kz2 kz3 kz4 kz5 yx0 yx1 yf0 yf1 lt8 lt9 lt10
      obtain ⟨⟨az0, az1, az2, az3, az4, az5, az6, az7, az8, az9, az10, az11⟩, af0, af1, af2, af3, af4, af5, af6, af7, af8, af9, af10, af11⟩ := c12 BA9.out
      have lt11 := blk_lt BA9.out
      go_wp2
      exact bodyPost_ret (ret60 rfl rfl (set12 BA9.out)) rfl (doneI HS9.out HK9.out BA9.out (by omega) (by omega) (codeA 0))
end Go.Proofs.YtclploookcjcbaaDoor.PIde
namespace Go.Proofs.YtclploookcjcbaaDoor.PIde
open Go.RowKit Go.Proofs.YtclploookcjcbaaDoorW.PrintWords Go.Proofs.YtclploookcjcbaaDoorW.PrintLast Go.Proofs.YtclploookcjcbaaDoorW.PrintMore
attribute [local go_sem] max2_int min2_int max_two min_two max_three min_three max_four min_four   -- for this text's walks alone
set_option linter.unusedVariables false
set_option linter.unusedSimpArgs false
theorem ISt.new {w0 W w4 : World} {base gP gS : Nat} {av tv sv lv : Value} {ts ts' : List S78} {ss : List ByteArray} (h : ISt w0 W base gP gS av tv sv ts ss) (hs : Kd.S k78 78 w4 base tt lv ts') (hb : Below base w0 w4) (hg : W.grownBy w4 tv.ownBlock) :
    ISt w0 (w4.setCell ⟨gP, 2, none⟩ lv) base gP gS av lv sv ts' ss ∧ KT stI W (w4.setCell ⟨gP, 2, none⟩ lv) ∧ w4.heap[gP]? = some (.cells #[.bool true, av, tv] 39 (0, 0)) ∧ KT stI W w4 := by
  have hne := Kd.S_ne h.T h.P (by decide)
  have hM4 : w4.heap[gP]? = some (.cells #[.bool true, av, tv] 39 (0, 0)) := (hg.block gP (blk_lt h.P) hne).trans h.P
  have k1 : KT [78] W w4 := KT.grown hg (fun k hk => by obtain ⟨cs, hc⟩ := Kd.S_typed h.T k hk; exact ⟨cs, _, hc, by simp⟩)
  have k2 : KT [39] w4 (w4.setCell ⟨gP, 2, none⟩ lv) := KT.set hM4 (by simp) _
  exact ⟨⟨hb.setCell h.gp _, by have := Nat.le_trans h.le hg.size; simpa using this, (blk_set hM4 2 lv).trans (by simp), k2.blk (k1.blk h.Q (by decide)) (by decide), h.gp, h.gs, S_KT hs k2 (by decide), R_KT (R_KT h.S k1 (by decide)) k2 (by decide), h.L, h.b0⟩, (k1.mono (by decide)).trans (k2.mono (by decide)), hM4, k1.mono (by decide)⟩
theorem ISt.site {w0 W w4 : World} {base gP gS : Nat} {av tv sv lv : Value} {ts : List S78} {ss ss' : List ByteArray} (h : ISt w0 W base gP gS av tv sv ts ss) (hs : Kd.R Kd.string 9 w4 base tt lv ss') (hb : Below base w0 w4) (hg : W.grownBy w4 sv.ownBlock) :
    ISt w0 (w4.setCell ⟨gS, 0, none⟩ lv) base gP gS av tv lv ts ss' ∧ KT stI W (w4.setCell ⟨gS, 0, none⟩ lv) ∧ w4.heap[gS]? = some (.cells #[sv] 56 (0, 0)) ∧ KT stI W w4 := by
  have hne := Kd.R_ne h.S h.Q (by decide)
  have hM4 : w4.heap[gS]? = some (.cells #[sv] 56 (0, 0)) := (hg.block gS (blk_lt h.Q) hne).trans h.Q
  have k1 : KT [9] W w4 := KT.grown hg (fun k hk => by obtain ⟨cs, hc⟩ := Kd.R_typed h.S k hk; exact ⟨cs, _, hc, by simp⟩)
  have k2 : KT [56] w4 (w4.setCell ⟨gS, 0, none⟩ lv) := KT.set hM4 (by simp) _
  exact ⟨⟨hb.setCell h.gs _, by have := Nat.le_trans h.le hg.size; simpa using this, k2.blk (k1.blk h.P (by decide)) (by decide), (blk_set hM4 0 lv).trans (by simp), h.gp, h.gs, S_KT (S_KT h.T k1 (by decide)) k2 (by decide), R_KT hs k2 (by decide), h.L, h.b0⟩, (k1.mono (by decide)).trans (k2.mono (by decide)), hM4, k1.mono (by decide)⟩
set_option maxHeartbeats 8000000 in
set_option maxRecDepth 100000 in
theorem doI_newfull (w0 w : World) (base gP gS : Nat) (av tv sv : Value) (ts : List S78) (ss : List ByteArray) (x : S31) (hs : ISt w0 w base gP gS av tv sv ts ss) (hn : x.f0 = 1) (hok : aB x = true) (hf : ts.length = 100) :
    Calls Tryd.prog 26 #[.pointer (some ⟨gP, 0, none⟩), .agg (ac x).toArray, .pointer (some ⟨gS, 0, none⟩)] w (DoneI w0 w base gP gS av (codeA 5, ts, ss)) := by
  obtain ⟨tA, tc, rfl⟩ := Kd.S_slice hs.T
  obtain ⟨sA, sc, rfl⟩ := Kd.R_slice hs.S
  have HS := Aside0.mk hs
  obtain ⟨x0, x1, x2, x3, ⟨k0, k1, k2, k3, k4⟩, ⟨v0, v1, v2, v3, v4⟩⟩ := x
  obtain rfl : x0 = 1 := hn
  have HK : Aside0 (∀ w1, Calls Tryd.prog 43 #[.agg #[.int .i64 k0, .int .i64 k1, .float .f64 k2, .string k3, .int .i64 k4]] w1 fun e w' => e = .returned (.agg #[.int .i64 (keyC ⟨k0, k1, k2, k3, k4⟩), .int .i64 (keyV ⟨k0, k1, k2, k3, k4⟩).f0, .int .i64 (keyV ⟨k0, k1, k2, k3, k4⟩).f1, .float .f64 (keyV ⟨k0, k1, k2, k3, k4⟩).f2, .string (keyV ⟨k0, k1, k2, k3, k4⟩).f3, .int .i64 (keyV ⟨k0, k1, k2, k3, k4⟩).f4]) ∧ Below w1.heap.size w1 w') := ⟨fun w1 => implKey_calls ⟨k0, k1, k2, k3, k4⟩ w1⟩
  generalize keyC ⟨k0, k1, k2, k3, k4⟩ = kC at *
  generalize keyV ⟨k0, k1, k2, k3, k4⟩ = kV at *
  have hf1 : ((ts.length : Int) == 100) = true := by rw [hf]; rfl
  have hf2 : (ts.length == 100) = true := by rw [hf]; rfl
  clear hf
  show Calls Tryd.prog 26 #[.pointer (some ⟨gP, 0, none⟩), .agg #[.int .i64 1, .int .i64 x1, .int .i64 x2, .int .i64 x3, .int .i64 k0, .int .i64 k1, .float .f64 k2, .string k3, .int .i64 k4, .int .i64 v0, .int .i64 v1, .float .f64 v2, .string v3, .int .i64 v4], .pointer (some ⟨gS, 0, none⟩)] w _
  have HB := Aside0.mk (below_alloc (below_alloc (Below.refl w.heap.size w) (.cells #[.int .i64 1, .int .i64 x1, .int .i64 x2, .int .i64 x3, .int .i64 k0, .int .i64 k1, .float .f64 k2, .string k3, .int .i64 k4, .int .i64 v0, .int .i64 v1, .float .f64 v2, .string v3, .int .i64 v4] 31)) (.cells #[.int .i64 0, .int .i64 0, .int .i64 0, .int .i64 0, .float .f64 0, .string ⟨#[]⟩, .int .i64 0, .int .i64 0, .int .i64 0, .float .f64 0, .string ⟨#[]⟩, .int .i64 0] 60))
  have BX := Aside0.mk (heap_alloc2_old w (.cells #[.int .i64 1, .int .i64 x1, .int .i64 x2, .int .i64 x3, .int .i64 k0, .int .i64 k1, .float .f64 k2, .string k3, .int .i64 k4, .int .i64 v0, .int .i64 v1, .float .f64 v2, .string v3, .int .i64 v4] 31) (.cells #[.int .i64 0, .int .i64 0, .int .i64 0, .int .i64 0, .float .f64 0, .string ⟨#[]⟩, .int .i64 0, .int .i64 0, .int .i64 0, .float .f64 0, .string ⟨#[]⟩, .int .i64 0] 60))
  have BA := Aside0.mk (heap_alloc2_new w (.cells #[.int .i64 1, .int .i64 x1, .int .i64 x2, .int .i64 x3, .int .i64 k0, .int .i64 k1, .float .f64 k2, .string k3, .int .i64 k4, .int .i64 v0, .int .i64 v1, .float .f64 v2, .string v3, .int .i64 v4] 31) (.cells #[.int .i64 0, .int .i64 0, .int .i64 0, .int .i64 0, .float .f64 0, .string ⟨#[]⟩, .int .i64 0, .int .i64 0, .int .i64 0, .float .f64 0, .string ⟨#[]⟩, .int .i64 0] 60))
  have LE := hs.le
  have lt1 := blk_lt hs.P
  have ltq := blk_lt hs.Q
  have HA : Aside0 (∀ w1, Lies w1 → Calls Tryd.prog 8 #[.agg #[.int .i64 1, .int .i64 x1, .int .i64 x2, .int .i64 x3, .int .i64 k0, .int .i64 k1, .float .f64 k2, .string k3, .int .i64 k4, .int .i64 v0, .int .i64 v1, .float .f64 v2, .string v3, .int .i64 v4]] w1 fun e w' => e = .returned (.bool true) ∧ Below w1.heap.size w1 w') := ⟨fun w1 hl => by have := implAct_calls ⟨1, x1, x2, x3, ⟨k0, k1, k2, k3, k4⟩, ⟨v0, v1, v2, v3, v4⟩⟩ w1 hl; rw [act_eq, hok] at this; exact this⟩
  clear hok
  have hu := Tryd.underlying29
  have hu2 := Tryd.underlying31
  have hu3 := Tryd.underlying39
  have hu4 := Tryd.underlying37
  have hu5 := Tryd.underlying60
  have hu6 := Tryd.underlying74
  have hu7 := Tryd.underlying78
  have hu8 := Tryd.underlying88
  have hu9 := Tryd.underlying52
  have hu10 := Tryd.underlying56
  have b1 := bt0_1
  have b1n := bne_t b1
  have b2 := bt0_2
  have b2n := bne_t b2
  go_enter Tryd.func26, Tryd.ntmps26
  go_wp2_with (go_at_call 8; refine (HA.out _ (HS.out.below HB.out).lies).mono ?_; rintro e w1 ⟨rfl, hb⟩; have HW := Aside0.mk (below_step HB.out hb); have BX1 := Aside0.mk (blk_below BX.out hb); have BA1 := Aside0.mk (blk_below BA.out hb); have HS1 := Aside0.mk (HS.out.below HW.out); clear HB BX BA HA hb HS; obtain ⟨xz0, xz1, xz2, xz3, xz4, xz5, xz6, xz7, xz8, xz9, xz10, xz11, xz12, xz13⟩ := c14 BX1.out; obtain ⟨⟨az0, az1, az2, az3, az4, az5, az6, az7, az8, az9, az10, az11⟩, af0, af1, af2, af3, af4, af5, af6, af7, af8, af9, af10, af11⟩ := c12 BA1.out; have mz2 := (blk_cell HS1.out.P 2).trans (show _ = some _ from rfl); have nz0 := (blk_cell HS1.out.Q 0).trans (show _ = some _ from rfl); have lt2 := blk_lt BA1.out; have fz : w1.cell? ⟨0, 1, none⟩ = some (.int .i64 0) := HS1.out.lies.2 1 (by omega))
  go_quiet (fail)
  go_wp2
  go_quiet (fail)
  go_wp2_with (first | (go_at_call 43; refine (HK.out _).mono ?_; rintro e w3 ⟨rfl, hb⟩; replace hb : Below w1.heap.size w1 w3 := ⟨hb.os, hb.tape, hb.output, hb.size, hb.block⟩; have HW2 := Aside0.mk (below_step HW.out hb); have BX2 := Aside0.mk (blk_below BX1.out hb); have BA2 := Aside0.mk (blk_below BA1.out hb); have HS2 := Aside0.mk (HS1.out.below hb); clear HK hb HW HS1 BX1 BA1 xz0 xz1 xz2 xz3 xz4 xz5 xz6 xz7 xz8 xz9 xz10 xz11 xz12 xz13 az0 az1 az2 az3 az4 az5 az6 az7 az8 az9 az10 az11 af0 af1 af2 af3 af4 af5 af6 af7 af8 af9 af10 af11 mz2 nz0 fz lt2; obtain ⟨xz0, xz1, xz2, xz3, xz4, xz5, xz6, xz7, xz8, xz9, xz10, xz11, xz12, xz13⟩ := c14 BX2.out; obtain ⟨⟨az0, az1, az2, az3, az4, az5, az6, az7, az8, az9, az10, az11⟩, af0, af1, af2, af3, af4, af5, af6, af7, af8, af9, af10, af11⟩ := c12 BA2.out; have mz2 := (blk_cell HS2.out.P 2).trans (show _ = some _ from rfl); have nz0 := (blk_cell HS2.out.Q 0).trans (show _ = some _ from rfl); have lt2 := blk_lt BA2.out; have lt3 := blk_lt HS2.out.P; have lt4 := blk_lt BX2.out; have lt5 := blk_lt HS2.out.Q))
  exact bodyPost_ret (ret60 rfl rfl (blk_alloc (set12 BA2.out) _)) rfl ((doneI HS2.out (KT.below HW2.out) BA2.out (by omega) (by omega) (codeA 5)).alloc _)
set_option maxHeartbeats 8000000 in
set_option maxRecDepth 100000 in
theorem doI_new (w0 w : World) (base gP gS : Nat) (av tv sv : Value) (ts : List S78) (ss : List ByteArray) (x : S31) (hs : ISt w0 w base gP gS av tv sv ts ss) (hn : x.f0 = 1) (hok : aB x = true) (hf : ts.length < 100) :
    Calls Tryd.prog 26 #[.pointer (some ⟨gP, 0, none⟩), .agg (ac x).toArray, .pointer (some ⟨gS, 0, none⟩)] w (DoneI w0 w base gP gS av (numA ts.length, ts ++ [z78], ss)) := by
  obtain ⟨tA, tc, rfl⟩ := Kd.S_slice hs.T
  obtain ⟨sA, sc, rfl⟩ := Kd.R_slice hs.S
  have HS := Aside0.mk hs
  obtain ⟨x0, x1, x2, x3, ⟨k0, k1, k2, k3, k4⟩, ⟨v0, v1, v2, v3, v4⟩⟩ := x
  obtain rfl : x0 = 1 := hn
  have HK : Aside0 (∀ w1, Calls Tryd.prog 43 #[.agg #[.int .i64 k0, .int .i64 k1, .float .f64 k2, .string k3, .int .i64 k4]] w1 fun e w' => e = .returned (.agg #[.int .i64 (keyC ⟨k0, k1, k2, k3, k4⟩), .int .i64 (keyV ⟨k0, k1, k2, k3, k4⟩).f0, .int .i64 (keyV ⟨k0, k1, k2, k3, k4⟩).f1, .float .f64 (keyV ⟨k0, k1, k2, k3, k4⟩).f2, .string (keyV ⟨k0, k1, k2, k3, k4⟩).f3, .int .i64 (keyV ⟨k0, k1, k2, k3, k4⟩).f4]) ∧ Below w1.heap.size w1 w') := ⟨fun w1 => implKey_calls ⟨k0, k1, k2, k3, k4⟩ w1⟩
  generalize keyC ⟨k0, k1, k2, k3, k4⟩ = kC at *
  generalize keyV ⟨k0, k1, k2, k3, k4⟩ = kV at *
  have hf1 : ((ts.length : Int) == 100) = false := beq_eq_false_iff_ne.mpr (by omega)
  have hf2 : (ts.length == 100) = false := beq_eq_false_iff_ne.mpr (by omega)
  have HTL := Aside0.mk hf
  have hf3 : (ts.length : Int) ≤ 100 := by omega
  clear hf
  show Calls Tryd.prog 26 #[.pointer (some ⟨gP, 0, none⟩), .agg #[.int .i64 1, .int .i64 x1, .int .i64 x2, .int .i64 x3, .int .i64 k0, .int .i64 k1, .float .f64 k2, .string k3, .int .i64 k4, .int .i64 v0, .int .i64 v1, .float .f64 v2, .string v3, .int .i64 v4], .pointer (some ⟨gS, 0, none⟩)] w _
  have HB := Aside0.mk (below_alloc (below_alloc (Below.refl w.heap.size w) (.cells #[.int .i64 1, .int .i64 x1, .int .i64 x2, .int .i64 x3, .int .i64 k0, .int .i64 k1, .float .f64 k2, .string k3, .int .i64 k4, .int .i64 v0, .int .i64 v1, .float .f64 v2, .string v3, .int .i64 v4] 31)) (.cells #[.int .i64 0, .int .i64 0, .int .i64 0, .int .i64 0, .float .f64 0, .string ⟨#[]⟩, .int .i64 0, .int .i64 0, .int .i64 0, .float .f64 0, .string ⟨#[]⟩, .int .i64 0] 60))
  have BX := Aside0.mk (heap_alloc2_old w (.cells #[.int .i64 1, .int .i64 x1, .int .i64 x2, .int .i64 x3, .int .i64 k0, .int .i64 k1, .float .f64 k2, .string k3, .int .i64 k4, .int .i64 v0, .int .i64 v1, .float .f64 v2, .string v3, .int .i64 v4] 31) (.cells #[.int .i64 0, .int .i64 0, .int .i64 0, .int .i64 0, .float .f64 0, .string ⟨#[]⟩, .int .i64 0, .int .i64 0, .int .i64 0, .float .f64 0, .string ⟨#[]⟩, .int .i64 0] 60))
  have BA := Aside0.mk (heap_alloc2_new w (.cells #[.int .i64 1, .int .i64 x1, .int .i64 x2, .int .i64 x3, .int .i64 k0, .int .i64 k1, .float .f64 k2, .string k3, .int .i64 k4, .int .i64 v0, .int .i64 v1, .float .f64 v2, .string v3, .int .i64 v4] 31) (.cells #[.int .i64 0, .int .i64 0, .int .i64 0, .int .i64 0, .float .f64 0, .string ⟨#[]⟩, .int .i64 0, .int .i64 0, .int .i64 0, .float .f64 0, .string ⟨#[]⟩, .int .i64 0] 60))
  have LE := hs.le
  have lt1 := blk_lt hs.P
  have ltq := blk_lt hs.Q
  have HA : Aside0 (∀ w1, Lies w1 → Calls Tryd.prog 8 #[.agg #[.int .i64 1, .int .i64 x1, .int .i64 x2, .int .i64 x3, .int .i64 k0, .int .i64 k1, .float .f64 k2, .string k3, .int .i64 k4, .int .i64 v0, .int .i64 v1, .float .f64 v2, .string v3, .int .i64 v4]] w1 fun e w' => e = .returned (.bool true) ∧ Below w1.heap.size w1 w') := ⟨fun w1 hl => by have := implAct_calls ⟨1, x1, x2, x3, ⟨k0, k1, k2, k3, k4⟩, ⟨v0, v1, v2, v3, v4⟩⟩ w1 hl; rw [act_eq, hok] at this; exact this⟩
  clear hok
  have hu := Tryd.underlying29
  have hu2 := Tryd.underlying31
  have hu3 := Tryd.underlying39
  have hu4 := Tryd.underlying37
  have hu5 := Tryd.underlying60
  have hu6 := Tryd.underlying74
  have hu7 := Tryd.underlying78
  have hu8 := Tryd.underlying88
  have hu9 := Tryd.underlying52
  have hu10 := Tryd.underlying56
  have b1 := bt0_1
  have b1n := bne_t b1
  have b2 := bt0_2
  have b2n := bne_t b2
  go_enter Tryd.func26, Tryd.ntmps26
  go_wp2_with (go_at_call 8; refine (HA.out _ (HS.out.below HB.out).lies).mono ?_; rintro e w1 ⟨rfl, hb⟩; have HW := Aside0.mk (below_step HB.out hb); have BX1 := Aside0.mk (blk_below BX.out hb); have BA1 := Aside0.mk (blk_below BA.out hb); have HS1 := Aside0.mk (HS.out.below HW.out); clear HB BX BA HA hb HS; obtain ⟨xz0, xz1, xz2, xz3, xz4, xz5, xz6, xz7, xz8, xz9, xz10, xz11, xz12, xz13⟩ := c14 BX1.out; obtain ⟨⟨az0, az1, az2, az3, az4, az5, az6, az7, az8, az9, az10, az11⟩, af0, af1, af2, af3, af4, af5, af6, af7, af8, af9, af10, af11⟩ := c12 BA1.out; have mz2 := (blk_cell HS1.out.P 2).trans (show _ = some _ from rfl); have nz0 := (blk_cell HS1.out.Q 0).trans (show _ = some _ from rfl); have lt2 := blk_lt BA1.out; have fz : w1.cell? ⟨0, 1, none⟩ = some (.int .i64 0) := HS1.out.lies.2 1 (by omega))
  go_quiet (fail)
  go_wp2
  go_quiet (fail)
  go_wp2_with (first | (go_at_call 43; refine (HK.out _).mono ?_; rintro e w3 ⟨rfl, hb⟩; replace hb : Below w1.heap.size w1 w3 := ⟨hb.os, hb.tape, hb.output, hb.size, hb.block⟩; have HW2 := Aside0.mk (below_step HW.out hb); have BX2 := Aside0.mk (blk_below BX1.out hb); have BA2 := Aside0.mk (blk_below BA1.out hb); have HS2 := Aside0.mk (HS1.out.below hb); clear HK hb HW HS1 BX1 BA1 xz0 xz1 xz2 xz3 xz4 xz5 xz6 xz7 xz8 xz9 xz10 xz11 xz12 xz13 az0 az1 az2 az3 az4 az5 az6 az7 az8 az9 az10 az11 af0 af1 af2 af3 af4 af5 af6 af7 af8 af9 af10 af11 mz2 nz0 fz lt2; obtain ⟨xz0, xz1, xz2, xz3, xz4, xz5, xz6, xz7, xz8, xz9, xz10, xz11, xz12, xz13⟩ := c14 BX2.out; obtain ⟨⟨az0, az1, az2, az3, az4, az5, az6, az7, az8, az9, az10, az11⟩, af0, af1, af2, af3, af4, af5, af6, af7, af8, af9, af10, af11⟩ := c12 BA2.out; have mz2 := (blk_cell HS2.out.P 2).trans (show _ = some _ from rfl); have nz0 := (blk_cell HS2.out.Q 0).trans (show _ = some _ from rfl); have lt2 := blk_lt BA2.out; have lt3 := blk_lt HS2.out.P; have lt4 := blk_lt BX2.out; have lt5 := blk_lt HS2.out.Q) | (at_builtin; (refine Kd.S_append k78 (w0 := w0) base (by rfl) (.tmp 104) (.tmp 106) 37 78 (.agg #[.slice none 0 0, .int .i64 0]) 32 (by rfl) Tryd.underlying37 info78t (by rfl) (by decide) (by decide) (.slice tA ts.length tc) ts z78 [.slice none 0 0, .int .i64 0] tt (fun _ => False) (by rfl) (by first | rfl | simp [Act.eval, Act.put]) (k78_mkM _ _ _ z78 (Kd.R_nil k88 _ _ _ _)) (fun _ hk => hk.elim) (fun _ _ => trivial) (Kd.S_mono (HS2.out.below (below_alloc (Below.refl _ _) _)).T (fun _ _ => ⟨trivial, fun h => h⟩)) (HS2.out.below (below_alloc (Below.refl _ _) _)).B (HS2.out.below (below_alloc (Below.refl _ _) _)).le (by have := HTL.out; omega) ?_; intro lv w4 hs4 hb4 hg4 _; obtain ⟨lA, lc, le⟩ := Kd.S_slice hs4; rw [show (ts ++ [z78]).length = ts.length + 1 by simp] at le; subst le; obtain ⟨hn1, hn2, hn3, hn4⟩ := (HS2.out.below (below_alloc (Below.refl _ _) _)).new hs4 hb4 hg4; have HK3 := Aside0.mk ((KT.below (below_alloc HW2.out _)).trans hn2); have BA3 := Aside0.mk (hn2.blk (blk_alloc BA2.out _) (by decide)); have HS3 := Aside0.mk hn1; have BA4 := Aside0.mk (hn4.blk (blk_alloc BA2.out _) (by decide)); have nz1 : ¬ gP = w.heap.size + 1 := (by omega); have nz2 : ¬ w.heap.size + 1 = gP := (by omega); have ez2 : w4.cell? ⟨gP, 2, none⟩ = some _ := (blk_cell hn3 2).trans rfl; have ef := blk_frozen hn3 2; have el := blk_lt hn3; clear hs4 hb4 hg4 hn1 hn2 hn3 hn4; obtain ⟨⟨bz0, bz1, bz2, bz3, bz4, bz5, bz6, bz7, bz8, bz9, bz10, bz11⟩, bf0, bf1, bf2, bf3, bf4, bf5, bf6, bf7, bf8, bf9, bf10, bf11⟩ := c12 BA4.out; have lt6 := blk_lt BA4.out)))
  exact bodyPost_ret (ret60 rfl rfl (set12 BA3.out)) rfl (doneI HS3.out HK3.out BA3.out (by omega) (by omega) (numA ts.length))
set_option maxHeartbeats 8000000 in
set_option maxRecDepth 100000 in
theorem doI_sitefull (w0 w : World) (base gP gS : Nat) (av tv sv : Value) (ts : List S78) (ss : List ByteArray) (x : S31) (hs : ISt w0 w base gP gS av tv sv ts ss) (hn : x.f0 = 7) (hok : aB x = true) (hf : ss.length = 50) :
    Calls Tryd.prog 26 #[.pointer (some ⟨gP, 0, none⟩), .agg (ac x).toArray, .pointer (some ⟨gS, 0, none⟩)] w (DoneI w0 w base gP gS av (codeA 5, ts, ss)) := by
  obtain ⟨tA, tc, rfl⟩ := Kd.S_slice hs.T
  obtain ⟨sA, sc, rfl⟩ := Kd.R_slice hs.S
  have HS := Aside0.mk hs
  obtain ⟨x0, x1, x2, x3, ⟨k0, k1, k2, k3, k4⟩, ⟨v0, v1, v2, v3, v4⟩⟩ := x
  obtain rfl : x0 = 7 := hn
  have HK : Aside0 (∀ w1, Calls Tryd.prog 43 #[.agg #[.int .i64 k0, .int .i64 k1, .float .f64 k2, .string k3, .int .i64 k4]] w1 fun e w' => e = .returned (.agg #[.int .i64 (keyC ⟨k0, k1, k2, k3, k4⟩), .int .i64 (keyV ⟨k0, k1, k2, k3, k4⟩).f0, .int .i64 (keyV ⟨k0, k1, k2, k3, k4⟩).f1, .float .f64 (keyV ⟨k0, k1, k2, k3, k4⟩).f2, .string (keyV ⟨k0, k1, k2, k3, k4⟩).f3, .int .i64 (keyV ⟨k0, k1, k2, k3, k4⟩).f4]) ∧ Below w1.heap.size w1 w') := ⟨fun w1 => implKey_calls ⟨k0, k1, k2, k3, k4⟩ w1⟩
  generalize keyC ⟨k0, k1, k2, k3, k4⟩ = kC at *
  generalize keyV ⟨k0, k1, k2, k3, k4⟩ = kV at *
  have hf1 : ((ss.length : Int) == 50) = true := by rw [hf]; rfl
  have hf2 : (ss.length == 50) = true := by rw [hf]; rfl
  clear hf
  show Calls Tryd.prog 26 #[.pointer (some ⟨gP, 0, none⟩), .agg #[.int .i64 7, .int .i64 x1, .int .i64 x2, .int .i64 x3, .int .i64 k0, .int .i64 k1, .float .f64 k2, .string k3, .int .i64 k4, .int .i64 v0, .int .i64 v1, .float .f64 v2, .string v3, .int .i64 v4], .pointer (some ⟨gS, 0, none⟩)] w _
  have HB := Aside0.mk (below_alloc (below_alloc (Below.refl w.heap.size w) (.cells #[.int .i64 7, .int .i64 x1, .int .i64 x2, .int .i64 x3, .int .i64 k0, .int .i64 k1, .float .f64 k2, .string k3, .int .i64 k4, .int .i64 v0, .int .i64 v1, .float .f64 v2, .string v3, .int .i64 v4] 31)) (.cells #[.int .i64 0, .int .i64 0, .int .i64 0, .int .i64 0, .float .f64 0, .string ⟨#[]⟩, .int .i64 0, .int .i64 0, .int .i64 0, .float .f64 0, .string ⟨#[]⟩, .int .i64 0] 60))
  have BX := Aside0.mk (heap_alloc2_old w (.cells #[.int .i64 7, .int .i64 x1, .int .i64 x2, .int .i64 x3, .int .i64 k0, .int .i64 k1, .float .f64 k2, .string k3, .int .i64 k4, .int .i64 v0, .int .i64 v1, .float .f64 v2, .string v3, .int .i64 v4] 31) (.cells #[.int .i64 0, .int .i64 0, .int .i64 0, .int .i64 0, .float .f64 0, .string ⟨#[]⟩, .int .i64 0, .int .i64 0, .int .i64 0, .float .f64 0, .string ⟨#[]⟩, .int .i64 0] 60))
  have BA := Aside0.mk (heap_alloc2_new w (.cells #[.int .i64 7, .int .i64 x1, .int .i64 x2, .int .i64 x3, .int .i64 k0, .int .i64 k1, .float .f64 k2, .string k3, .int .i64 k4, .int .i64 v0, .int .i64 v1, .float .f64 v2, .string v3, .int .i64 v4] 31) (.cells #[.int .i64 0, .int .i64 0, .int .i64 0, .int .i64 0, .float .f64 0, .string ⟨#[]⟩, .int .i64 0, .int .i64 0, .int .i64 0, .float .f64 0, .string ⟨#[]⟩, .int .i64 0] 60))
  have LE := hs.le
  have lt1 := blk_lt hs.P
  have ltq := blk_lt hs.Q
  have HA : Aside0 (∀ w1, Lies w1 → Calls Tryd.prog 8 #[.agg #[.int .i64 7, .int .i64 x1, .int .i64 x2, .int .i64 x3, .int .i64 k0, .int .i64 k1, .float .f64 k2, .string k3, .int .i64 k4, .int .i64 v0, .int .i64 v1, .float .f64 v2, .string v3, .int .i64 v4]] w1 fun e w' => e = .returned (.bool true) ∧ Below w1.heap.size w1 w') := ⟨fun w1 hl => by have := implAct_calls ⟨7, x1, x2, x3, ⟨k0, k1, k2, k3, k4⟩, ⟨v0, v1, v2, v3, v4⟩⟩ w1 hl; rw [act_eq, hok] at this; exact this⟩
  clear hok
  have hu := Tryd.underlying29
  have hu2 := Tryd.underlying31
  have hu3 := Tryd.underlying39
  have hu4 := Tryd.underlying37
  have hu5 := Tryd.underlying60
  have hu6 := Tryd.underlying74
  have hu7 := Tryd.underlying78
  have hu8 := Tryd.underlying88
  have hu9 := Tryd.underlying52
  have hu10 := Tryd.underlying56
  have b1 := bt8_1
  have b1n := bne_t b1
  have b2 := bt8_2
  have b2n := bne_t b2
  go_enter Tryd.func26, Tryd.ntmps26
  go_wp2_with (go_at_call 8; refine (HA.out _ (HS.out.below HB.out).lies).mono ?_; rintro e w1 ⟨rfl, hb⟩; have HW := Aside0.mk (below_step HB.out hb); have BX1 := Aside0.mk (blk_below BX.out hb); have BA1 := Aside0.mk (blk_below BA.out hb); have HS1 := Aside0.mk (HS.out.below HW.out); clear HB BX BA HA hb HS; obtain ⟨xz0, xz1, xz2, xz3, xz4, xz5, xz6, xz7, xz8, xz9, xz10, xz11, xz12, xz13⟩ := c14 BX1.out; obtain ⟨⟨az0, az1, az2, az3, az4, az5, az6, az7, az8, az9, az10, az11⟩, af0, af1, af2, af3, af4, af5, af6, af7, af8, af9, af10, af11⟩ := c12 BA1.out; have mz2 := (blk_cell HS1.out.P 2).trans (show _ = some _ from rfl); have nz0 := (blk_cell HS1.out.Q 0).trans (show _ = some _ from rfl); have lt2 := blk_lt BA1.out; have fz : w1.cell? ⟨0, 7, none⟩ = some (.int .i64 8) := HS1.out.lies.2 7 (by omega))
  go_quiet (fail)
  go_wp2
  go_quiet (fail)
  go_wp2_with (first | (go_at_call 43; refine (HK.out _).mono ?_; rintro e w3 ⟨rfl, hb⟩; replace hb : Below w1.heap.size w1 w3 := ⟨hb.os, hb.tape, hb.output, hb.size, hb.block⟩; have HW2 := Aside0.mk (below_step HW.out hb); have BX2 := Aside0.mk (blk_below BX1.out hb); have BA2 := Aside0.mk (blk_below BA1.out hb); have HS2 := Aside0.mk (HS1.out.below hb); clear HK hb HW HS1 BX1 BA1 xz0 xz1 xz2 xz3 xz4 xz5 xz6 xz7 xz8 xz9 xz10 xz11 xz12 xz13 az0 az1 az2 az3 az4 az5 az6 az7 az8 az9 az10 az11 af0 af1 af2 af3 af4 af5 af6 af7 af8 af9 af10 af11 mz2 nz0 fz lt2; obtain ⟨xz0, xz1, xz2, xz3, xz4, xz5, xz6, xz7, xz8, xz9, xz10, xz11, xz12, xz13⟩ := c14 BX2.out; obtain ⟨⟨az0, az1, az2, az3, az4, az5, az6, az7, az8, az9, az10, az11⟩, af0, af1, af2, af3, af4, af5, af6, af7, af8, af9, af10, af11⟩ := c12 BA2.out; have mz2 := (blk_cell HS2.out.P 2).trans (show _ = some _ from rfl); have nz0 := (blk_cell HS2.out.Q 0).trans (show _ = some _ from rfl); have lt2 := blk_lt BA2.out; have lt3 := blk_lt HS2.out.P; have lt4 := blk_lt BX2.out; have lt5 := blk_lt HS2.out.Q))
  exact bodyPost_ret (ret60 rfl rfl (blk_alloc (set12 BA2.out) _)) rfl ((doneI HS2.out (KT.below HW2.out) BA2.out (by omega) (by omega) (codeA 5)).alloc _)
set_option maxHeartbeats 8000000 in
set_option maxRecDepth 100000 in
theorem doI_site (w0 w : World) (base gP gS : Nat) (av tv sv : Value) (ts : List S78) (ss : List ByteArray) (x : S31) (hs : ISt w0 w base gP gS av tv sv ts ss) (hn : x.f0 = 7) (hok : aB x = true) (hf : ss.length < 50) :
    Calls Tryd.prog 26 #[.pointer (some ⟨gP, 0, none⟩), .agg (ac x).toArray, .pointer (some ⟨gS, 0, none⟩)] w (DoneI w0 w base gP gS av (numA ss.length, ts, ss ++ [x.f4.f3])) := by
  obtain ⟨tA, tc, rfl⟩ := Kd.S_slice hs.T
  obtain ⟨sA, sc, rfl⟩ := Kd.R_slice hs.S
  have HS := Aside0.mk hs
  obtain ⟨x0, x1, x2, x3, ⟨k0, k1, k2, k3, k4⟩, ⟨v0, v1, v2, v3, v4⟩⟩ := x
  obtain rfl : x0 = 7 := hn
  have HK : Aside0 (∀ w1, Calls Tryd.prog 43 #[.agg #[.int .i64 k0, .int .i64 k1, .float .f64 k2, .string k3, .int .i64 k4]] w1 fun e w' => e = .returned (.agg #[.int .i64 (keyC ⟨k0, k1, k2, k3, k4⟩), .int .i64 (keyV ⟨k0, k1, k2, k3, k4⟩).f0, .int .i64 (keyV ⟨k0, k1, k2, k3, k4⟩).f1, .float .f64 (keyV ⟨k0, k1, k2, k3, k4⟩).f2, .string (keyV ⟨k0, k1, k2, k3, k4⟩).f3, .int .i64 (keyV ⟨k0, k1, k2, k3, k4⟩).f4]) ∧ Below w1.heap.size w1 w') := ⟨fun w1 => implKey_calls ⟨k0, k1, k2, k3, k4⟩ w1⟩
  generalize keyC ⟨k0, k1, k2, k3, k4⟩ = kC at *
  generalize keyV ⟨k0, k1, k2, k3, k4⟩ = kV at *
  have hf1 : ((ss.length : Int) == 50) = false := beq_eq_false_iff_ne.mpr (by omega)
  have hf2 : (ss.length == 50) = false := beq_eq_false_iff_ne.mpr (by omega)
  have HTL := Aside0.mk hf
  have hf3 : (ss.length : Int) ≤ 50 := by omega
  clear hf
  show Calls Tryd.prog 26 #[.pointer (some ⟨gP, 0, none⟩), .agg #[.int .i64 7, .int .i64 x1, .int .i64 x2, .int .i64 x3, .int .i64 k0, .int .i64 k1, .float .f64 k2, .string k3, .int .i64 k4, .int .i64 v0, .int .i64 v1, .float .f64 v2, .string v3, .int .i64 v4], .pointer (some ⟨gS, 0, none⟩)] w _
  have HB := Aside0.mk (below_alloc (below_alloc (Below.refl w.heap.size w) (.cells #[.int .i64 7, .int .i64 x1, .int .i64 x2, .int .i64 x3, .int .i64 k0, .int .i64 k1, .float .f64 k2, .string k3, .int .i64 k4, .int .i64 v0, .int .i64 v1, .float .f64 v2, .string v3, .int .i64 v4] 31)) (.cells #[.int .i64 0, .int .i64 0, .int .i64 0, .int .i64 0, .float .f64 0, .string ⟨#[]⟩, .int .i64 0, .int .i64 0, .int .i64 0, .float .f64 0, .string ⟨#[]⟩, .int .i64 0] 60))
  have BX := Aside0.mk (heap_alloc2_old w (.cells #[.int .i64 7, .int .i64 x1, .int .i64 x2, .int .i64 x3, .int .i64 k0, .int .i64 k1, .float .f64 k2, .string k3, .int .i64 k4, .int .i64 v0, .int .i64 v1, .float .f64 v2, .string v3, .int .i64 v4] 31) (.cells #[.int .i64 0, .int .i64 0, .int .i64 0, .int .i64 0, .float .f64 0, .string ⟨#[]⟩, .int .i64 0, .int .i64 0, .int .i64 0, .float .f64 0, .string ⟨#[]⟩, .int .i64 0] 60))
  have BA := Aside0.mk (heap_alloc2_new w (.cells #[.int .i64 7, .int .i64 x1, .int .i64 x2, .int .i64 x3, .int .i64 k0, .int .i64 k1, .float .f64 k2, .string k3, .int .i64 k4, .int .i64 v0, .int .i64 v1, .float .f64 v2, .string v3, .int .i64 v4] 31) (.cells #[.int .i64 0, .int .i64 0, .int .i64 0, .int .i64 0, .float .f64 0, .string ⟨#[]⟩, .int .i64 0, .int .i64 0, .int .i64 0, .float .f64 0, .string ⟨#[]⟩, .int .i64 0] 60))
  have LE := hs.le
  have lt1 := blk_lt hs.P
  have ltq := blk_lt hs.Q
  have HA : Aside0 (∀ w1, Lies w1 → Calls Tryd.prog 8 #[.agg #[.int .i64 7, .int .i64 x1, .int .i64 x2, .int .i64 x3, .int .i64 k0, .int .i64 k1, .float .f64 k2, .string k3, .int .i64 k4, .int .i64 v0, .int .i64 v1, .float .f64 v2, .string v3, .int .i64 v4]] w1 fun e w' => e = .returned (.bool true) ∧ Below w1.heap.size w1 w') := ⟨fun w1 hl => by have := implAct_calls ⟨7, x1, x2, x3, ⟨k0, k1, k2, k3, k4⟩, ⟨v0, v1, v2, v3, v4⟩⟩ w1 hl; rw [act_eq, hok] at this; exact this⟩
  clear hok
  have hu := Tryd.underlying29
  have hu2 := Tryd.underlying31
  have hu3 := Tryd.underlying39
  have hu4 := Tryd.underlying37
  have hu5 := Tryd.underlying60
  have hu6 := Tryd.underlying74
  have hu7 := Tryd.underlying78
  have hu8 := Tryd.underlying88
  have hu9 := Tryd.underlying52
  have hu10 := Tryd.underlying56
  have b1 := bt8_1
  have b1n := bne_t b1
  have b2 := bt8_2
  have b2n := bne_t b2
  go_enter Tryd.func26, Tryd.ntmps26
  go_wp2_with (go_at_call 8; refine (HA.out _ (HS.out.below HB.out).lies).mono ?_; rintro e w1 ⟨rfl, hb⟩; have HW := Aside0.mk (below_step HB.out hb); have BX1 := Aside0.mk (blk_below BX.out hb); have BA1 := Aside0.mk (blk_below BA.out hb); have HS1 := Aside0.mk (HS.out.below HW.out); clear HB BX BA HA hb HS; obtain ⟨xz0, xz1, xz2, xz3, xz4, xz5, xz6, xz7, xz8, xz9, xz10, xz11, xz12, xz13⟩ := c14 BX1.out; obtain ⟨⟨az0, az1, az2, az3, az4, az5, az6, az7, az8, az9, az10, az11⟩, af0, af1, af2, af3, af4, af5, af6, af7, af8, af9, af10, af11⟩ := c12 BA1.out; have mz2 := (blk_cell HS1.out.P 2).trans (show _ = some _ from rfl); have nz0 := (blk_cell HS1.out.Q 0).trans (show _ = some _ from rfl); have lt2 := blk_lt BA1.out; have fz : w1.cell? ⟨0, 7, none⟩ = some (.int .i64 8) := HS1.out.lies.2 7 (by omega))
  go_quiet (fail)
  go_wp2
  go_quiet (fail)
  go_wp2_with (first | (go_at_call 43; refine (HK.out _).mono ?_; rintro e w3 ⟨rfl, hb⟩; replace hb : Below w1.heap.size w1 w3 := ⟨hb.os, hb.tape, hb.output, hb.size, hb.block⟩; have HW2 := Aside0.mk (below_step HW.out hb); have BX2 := Aside0.mk (blk_below BX1.out hb); have BA2 := Aside0.mk (blk_below BA1.out hb); have HS2 := Aside0.mk (HS1.out.below hb); clear HK hb HW HS1 BX1 BA1 xz0 xz1 xz2 xz3 xz4 xz5 xz6 xz7 xz8 xz9 xz10 xz11 xz12 xz13 az0 az1 az2 az3 az4 az5 az6 az7 az8 az9 az10 az11 af0 af1 af2 af3 af4 af5 af6 af7 af8 af9 af10 af11 mz2 nz0 fz lt2; obtain ⟨xz0, xz1, xz2, xz3, xz4, xz5, xz6, xz7, xz8, xz9, xz10, xz11, xz12, xz13⟩ := c14 BX2.out; obtain ⟨⟨az0, az1, az2, az3, az4, az5, az6, az7, az8, az9, az10, az11⟩, af0, af1, af2, af3, af4, af5, af6, af7, af8, af9, af10, af11⟩ := c12 BA2.out; have mz2 := (blk_cell HS2.out.P 2).trans (show _ = some _ from rfl); have nz0 := (blk_cell HS2.out.Q 0).trans (show _ = some _ from rfl); have lt2 := blk_lt BA2.out; have lt3 := blk_lt HS2.out.P; have lt4 := blk_lt BX2.out; have lt5 := blk_lt HS2.out.Q))
  obtain ⟨W, eW⟩ : ∃ W, W = w3.alloc (.cells #[.int .i64 kC, .int .i64 kV.f0, .int .i64 kV.f1, .float .f64 kV.f2, .string kV.f3, .int .i64 kV.f4] 74) := ⟨_, rfl⟩
  have hbW : Below w3.heap.size w3 W := by rw [eW]; exact below_alloc (Below.refl _ _) _
  have HW3 := Aside0.mk (below_step HW2.out hbW)
  have BX3 := Aside0.mk (blk_below BX2.out hbW)
  have BA3 := Aside0.mk (blk_below BA2.out hbW)
  have HS3 := Aside0.mk (HS2.out.below hbW)
  have BK3 := Aside0.mk (show W.heap[w3.heap.size]? = some (.cells #[.int .i64 kC, .int .i64 kV.f0, .int .i64 kV.f1, .float .f64 kV.f2, .string kV.f3, .int .i64 kV.f4] 74 (0, 0)) by rw [eW]; exact heap_alloc_new _ _)
  rw [← eW]
  have NK0 := lt2
  clear eW hbW HW2 BX2 BA2 HS2 xz0 xz1 xz2 xz3 xz4 xz5 xz6 xz7 xz8 xz9 xz10 xz11 xz12 xz13 az0 az1 az2 az3 az4 az5 az6 az7 az8 az9 az10 az11 af0 af1 af2 af3 af4 af5 af6 af7 af8 af9 af10 af11 mz2 nz0 lt2 lt3 lt4 lt5
  generalize w3.heap.size = gK at *
  obtain ⟨_, _, _, _, _, _, _, xz7, _⟩ := c14 BX3.out
  have mz1 := (blk_cell HS3.out.Q 0).trans (show _ = some _ from rfl)
  have mf1 := blk_frozen HS3.out.Q 0
  have lt3 := blk_lt HS3.out.Q
  have nz1 : ¬ gS = w.heap.size + 1 := by omega
  have nz2 : ¬ w.heap.size + 1 = gS := by omega
  have nz3 : gS ≠ w.heap.size := by omega
  have HNE := Aside0.mk (Kd.R_ne HS3.out.S HS3.out.Q (by decide))
  have HNX := Aside0.mk (Kd.R_ne HS3.out.S BX3.out (by decide))
  go_region_law
    (((rw [alloc_drew]); refine Kd.R_append_step Kd.string (w0 := w0) base (by rfl) (.tmp 128) (.tmp 132) 56 9 (.string ⟨#[]⟩) 16 (by rfl) Tryd.underlying56 info9 (by rfl) (by decide) (by decide) (.slice sA ss.length sc) ss k3 [.string k3] tt (fun _ => False) (by first | rfl | simp [Act.eval, Act.put]) (by first | rfl | simp [Act.eval, Act.put]) rfl (fun _ hk => hk.elim) (fun _ _ => trivial) (Kd.R_drew HS3.out.S) (below_drew HS3.out.B) HS3.out.le (by have := HTL.out; omega) ?_; intro lv w4 hs4 hb4 hg4 _; obtain ⟨lA, lc, le⟩ := Kd.R_slice hs4; rw [show (ss ++ [k3]).length = ss.length + 1 by simp] at le; subst le; have HG3 := Aside0.mk hg4; have HS4 := Aside0.mk hs4; have HB4 := Aside0.mk hb4; have hm4 := (hg4.block gS lt3 HNE.out).trans HS3.out.Q; have cz := (blk_cell hm4 0).trans (show _ = some _ from rfl); have fz := blk_frozen hm4 0; have lz := blk_lt hm4; clear hm4 hs4 hb4 hg4))
  all_goals
    obtain ⟨hn1, hn2, hn3, hn4⟩ := HS3.out.site HS4.out HB4.out (grown_drew HG3.out)
    have BA4 := Aside0.mk (hn4.blk BA3.out (by decide))
    have BA5 := Aside0.mk (hn2.blk BA3.out (by decide))
    have HS5 := Aside0.mk hn1
    have HK5 := Aside0.mk ((KT.below (L := stI) HW3.out).trans hn2)
    clear hn1 hn2 hn3 hn4
    obtain ⟨⟨bz0, bz1, bz2, bz3, bz4, bz5, bz6, bz7, bz8, bz9, bz10, bz11⟩, bf0, bf1, bf2, bf3, bf4, bf5, bf6, bf7, bf8, bf9, bf10, bf11⟩ := c12 BA4.out
    have lt5 := blk_lt BA4.out
    go_wp2
    exact bodyPost_ret (ret60 rfl rfl (set12 BA5.out)) rfl (doneI HS5.out HK5.out BA5.out (by omega) (by omega) (numA ss.length))
end Go.Proofs.YtclploookcjcbaaDoor.PIde
