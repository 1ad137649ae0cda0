/- Proved: the program's step: a site's field is written; what the program's step comes to, act by act in one; two equal floats that are no zeros are one word; the program's way to find a key and the reference's are one where the keys are normal, as a play keeps them; and so both plays are one; what the program's play of a script comes to; what the law FnExactIdeally comes to: true, whatever acts it is handed. Conditions: those each theorem states. -/
import Derived.Test.YtclploookcjcbaaDoorIdGG
import Derived.Test.YtclploookcjcbaaDoorIdGC
import Derived.Deep.RegionHeld3
import Derived.Test.YtclploookcjcbaaDoorIdGH
import Derived.Test.YtclploookcjcbaaDoorFltL
import Derived.Test.YtclploookcjcbaaDoorIdGD
import Derived.Deep.RegionLaw
import Derived.Test.YtclploookcjcbaaDoorIdGE
import Derived.Test.YtclploookcjcbaaDoorIdGF
namespace Go.Proofs.YtclploookcjcbaaDoor.PIde
open Go.RowKit Go.Proofs.YtclploookcjcbaaDoorW.PrintWords Go.Proofs.YtclploookcjcbaaDoorW.PrintLast Go.Proofs.YtclploookcjcbaaDoorW.PrintMore
attribute [local go_sem] max2_int min2_int max_two min_two max_three min_three max_four min_four   -- for this text's walks alone
set_option linter.unusedVariables false
set_option linter.unusedSimpArgs false
set_option maxHeartbeats 8000000 in
set_option maxRecDepth 100000 in
theorem doI_setfield (w0 w : World) (base gP gS : Nat) (av tv sv : Value) (ts : List S78) (ss : List ByteArray) (x : S31) (hs : ISt w0 w base gP gS av tv sv ts ss) (hn : x.f0 = 9) (hok : aB x = true) (h0 : 0 ≤ x.f1) (hlt : x.f1 < (ts.length : Int)) (hs0 : 0 ≤ x.f2) (hslt : x.f2 < (ss.length : Int)) (h5 : (rd_T78 ts x.f1).f0.length ≤ 500) (ht0 : 0 ≤ (rd_T78 ts x.f1).f1) (ht1 : (rd_T78 ts x.f1).f1 ≤ 1000000000000) :
    Calls Tryd.prog 26 #[.pointer (some ⟨gP, 0, none⟩), .agg (ac x).toArray, .pointer (some ⟨gS, 0, none⟩)] w (DoneI w0 w base gP gS av (codeA (putA (rd_T78 ts x.f1) (idxK (strK (rdOf ByteArray.empty ss x.f2)) (rd_T78 ts x.f1).f0) (strK (rdOf ByteArray.empty ss x.f2)) x.f5).1, ts.set x.f1.toNat (putA (rd_T78 ts x.f1) (idxK (strK (rdOf ByteArray.empty ss x.f2)) (rd_T78 ts x.f1).f0) (strK (rdOf ByteArray.empty ss x.f2)) x.f5).2, ss)) := by
  obtain ⟨g, tc, he, -, -, -⟩ := Kd.S_form hs.T (by omega)
  subst he
  obtain ⟨gs, sc, he, -, hgs, -⟩ := Kd.R_form hs.S (by omega)
  subst he
  have HS := Aside0.mk hs
  obtain ⟨x0, x1, x2, x3, ⟨k0, k1, k2, k3, k4⟩, ⟨v0, v1, v2, v3, v4⟩⟩ := x
  obtain rfl : x0 = 9 := hn
  simp only [] at h0 hlt hs0 hslt
  have hd := decide_eq_false (show ¬ (ts.length : Int) ≤ x1 by omega)
  have hd2 := decide_eq_false (show ¬ (ss.length : Int) ≤ x2 by omega)
  have HK : Aside0 (∀ w1, Calls Tryd.prog 43 #[.agg #[.int .i64 k0, .int .i64 k1, .float .f64 k2, .string k3, .int .i64 k4]] w1 fun e w' => e = .returned (.agg #[.int .i64 (keyC ⟨k0, k1, k2, k3, k4⟩), .int .i64 (keyV ⟨k0, k1, k2, k3, k4⟩).f0, .int .i64 (keyV ⟨k0, k1, k2, k3, k4⟩).f1, .float .f64 (keyV ⟨k0, k1, k2, k3, k4⟩).f2, .string (keyV ⟨k0, k1, k2, k3, k4⟩).f3, .int .i64 (keyV ⟨k0, k1, k2, k3, k4⟩).f4]) ∧ Below w1.heap.size w1 w') := ⟨fun w1 => implKey_calls ⟨k0, k1, k2, k3, k4⟩ w1⟩
  have HF9 : Aside0 (∀ w1, Kd.string.C w1 (some ⟨gs, 0, none⟩) ss.length ss → w1.cell? ⟨gs, x2.toNat, none⟩ = some (.string (rdOf ByteArray.empty ss x2))) := ⟨fun w1 hC => by have := Kd.foot_string hC x2 hs0 hslt; rw [Addr.add_lit, Nat.zero_add] at this; exact this⟩
  have HT : Aside0 (∀ w1 A0 c0, w1.cell? ⟨g, x1.toNat * 2, none⟩ = some (.slice A0 (rd_T78 ts x1).f0.length c0) → Kd.C k88 w1 A0 (rd_T78 ts x1).f0.length (rd_T78 ts x1).f0 → Calls Tryd.prog 44 #[.pointer (some ⟨g, x1.toNat * 2, none⟩), .agg #[.int .i64 4, .int .i64 0, .float .f64 0, .string (rdOf ByteArray.empty ss x2), .int .i64 0]] w1 fun e w' => e = .returned (.int .i64 (idxK (strK (rdOf ByteArray.empty ss x2)) (rd_T78 ts x1).f0)) ∧ Below w1.heap.size w1 w') := ⟨fun w1 A0 c0 hp hr => at_calls _ (strK (rdOf ByteArray.empty ss x2)) A0 c0 g (x1.toNat * 2) w1 hp hr⟩
  have RG := Aside0.mk (idxK_range (strK (rdOf ByteArray.empty ss x2)) (rd_T78 ts x1).f0)
  have HLD := Aside0.mk (fun w1 (hS : Kd.S k78 78 w1 base tt (.slice (some ⟨g, 0, none⟩) ts.length tc) ts) => T_lend hS x1 h0 hlt)
  have HL2 := Aside0.mk (fun w1 (hS : Kd.S k78 78 w1 base tt (.slice (some ⟨g, 0, none⟩) ts.length tc) ts) => T_lend2 hS x1 h0 hlt ((rd_T78 ts x1).f1 + 1))
  have HSET := Aside0.mk (set_rd ts x1 h0 hlt)
  have HGT := Aside0.mk (fun w1 (hS : Kd.S k78 78 w1 base tt (.slice (some ⟨g, 0, none⟩) ts.length tc) ts) => Kd.S_typed hS g (by simp [Value.ownBlock]))
  have HGB := Aside0.mk (Kd.S_base hs.T g (by simp [Value.ownBlock]))
  have HGL := Kd.S_lt hs.T g (by simp [Value.ownBlock])
  generalize idxK (strK (rdOf ByteArray.empty ss x2)) (rd_T78 ts x1).f0 = i at *
  have RR := Aside0.mk (show putA (rd_T78 ts x1) i (strK (rdOf ByteArray.empty ss x2)) ⟨v0, v1, v2, v3, v4⟩ = if 0 ≤ i then if v0 = 0 then (0, ⟨(rd_T78 ts x1).f0.eraseIdx i.toNat, (rd_T78 ts x1).f1⟩) else (0, ⟨(rd_T78 ts x1).f0.set i.toNat ⟨(rd_T88 (rd_T78 ts x1).f0 i).f0, ⟨v0, v1, v2, v3, v4⟩, (rd_T88 (rd_T78 ts x1).f0 i).f2⟩, (rd_T78 ts x1).f1⟩)
    else if v0 = 0 then (0, (rd_T78 ts x1)) else if ((rd_T78 ts x1).f0.length : Int) = 500 ∨ (rd_T78 ts x1).f1 = 1000000000000 then (5, (rd_T78 ts x1)) else (0, ⟨(rd_T78 ts x1).f0 ++ [⟨strK (rdOf ByteArray.empty ss x2), ⟨v0, v1, v2, v3, v4⟩, (rd_T78 ts x1).f1 + 1⟩], (rd_T78 ts x1).f1 + 1⟩) from rfl)
  have H5 := Aside0.mk h5
  have HT0 := Aside0.mk ht0
  have HT1 := Aside0.mk ht1
  clear h5 ht0 ht1
  simp only []
  generalize putA (rd_T78 ts x1) i (strK (rdOf ByteArray.empty ss x2)) ⟨v0, v1, v2, v3, v4⟩ = R at *
  obtain ⟨rc, rT⟩ := R
  generalize rd_T78 ts x1 = Tb at *
  obtain ⟨ps, tn⟩ := Tb
  simp only [] at *
  generalize rdOf ByteArray.empty ss x2 = sK at *
  generalize keyC ⟨k0, k1, k2, k3, k4⟩ = kC at *
  generalize keyV ⟨k0, k1, k2, k3, k4⟩ = kV at *
  show Calls Tryd.prog 26 #[.pointer (some ⟨gP, 0, none⟩), .agg #[.int .i64 9, .int .i64 x1, .int .i64 x2, .int .i64 x3, .int .i64 k0, .int .i64 k1, .float .f64 k2, .string k3, .int .i64 k4, .int .i64 v0, .int .i64 v1, .float .f64 v2, .string v3, .int .i64 v4], .pointer (some ⟨gS, 0, none⟩)] w _
  have HB := Aside0.mk (below_alloc (below_alloc (Below.refl w.heap.size w) (.cells #[.int .i64 9, .int .i64 x1, .int .i64 x2, .int .i64 x3, .int .i64 k0, .int .i64 k1, .float .f64 k2, .string k3, .int .i64 k4, .int .i64 v0, .int .i64 v1, .float .f64 v2, .string v3, .int .i64 v4] 31)) (.cells #[.int .i64 0, .int .i64 0, .int .i64 0, .int .i64 0, .float .f64 0, .string ⟨#[]⟩, .int .i64 0, .int .i64 0, .int .i64 0, .float .f64 0, .string ⟨#[]⟩, .int .i64 0] 60))
  have BX := Aside0.mk (heap_alloc2_old w (.cells #[.int .i64 9, .int .i64 x1, .int .i64 x2, .int .i64 x3, .int .i64 k0, .int .i64 k1, .float .f64 k2, .string k3, .int .i64 k4, .int .i64 v0, .int .i64 v1, .float .f64 v2, .string v3, .int .i64 v4] 31) (.cells #[.int .i64 0, .int .i64 0, .int .i64 0, .int .i64 0, .float .f64 0, .string ⟨#[]⟩, .int .i64 0, .int .i64 0, .int .i64 0, .float .f64 0, .string ⟨#[]⟩, .int .i64 0] 60))
  have BA := Aside0.mk (heap_alloc2_new w (.cells #[.int .i64 9, .int .i64 x1, .int .i64 x2, .int .i64 x3, .int .i64 k0, .int .i64 k1, .float .f64 k2, .string k3, .int .i64 k4, .int .i64 v0, .int .i64 v1, .float .f64 v2, .string v3, .int .i64 v4] 31) (.cells #[.int .i64 0, .int .i64 0, .int .i64 0, .int .i64 0, .float .f64 0, .string ⟨#[]⟩, .int .i64 0, .int .i64 0, .int .i64 0, .float .f64 0, .string ⟨#[]⟩, .int .i64 0] 60))
  have LE := hs.le
  have lt1 := blk_lt hs.P
  have ltq := blk_lt hs.Q
  have HA : Aside0 (∀ w1, Lies w1 → Calls Tryd.prog 8 #[.agg #[.int .i64 9, .int .i64 x1, .int .i64 x2, .int .i64 x3, .int .i64 k0, .int .i64 k1, .float .f64 k2, .string k3, .int .i64 k4, .int .i64 v0, .int .i64 v1, .float .f64 v2, .string v3, .int .i64 v4]] w1 fun e w' => e = .returned (.bool true) ∧ Below w1.heap.size w1 w') := ⟨fun w1 hl => by have := implAct_calls ⟨9, x1, x2, x3, ⟨k0, k1, k2, k3, k4⟩, ⟨v0, v1, v2, v3, v4⟩⟩ w1 hl; rw [act_eq, hok] at this; exact this⟩
  clear hok
  have hu := Tryd.underlying29
  have hu2 := Tryd.underlying31
  have hu3 := Tryd.underlying39
  have hu4 := Tryd.underlying37
  have hu5 := Tryd.underlying60
  have hu6 := Tryd.underlying74
  have hu7 := Tryd.underlying78
  have hu8 := Tryd.underlying88
  have hu9 := Tryd.underlying52
  have hu10 := Tryd.underlying56
  have b1 := bt19_1
  have b1n := bne_f b1
  have b2 := bt19_2
  have b2n := bne_f b2
  go_enter Tryd.func26, Tryd.ntmps26
  go_wp2_with (go_at_call 8; refine (HA.out _ (HS.out.below HB.out).lies).mono ?_; rintro e w1 ⟨rfl, hb⟩; have HW := Aside0.mk (below_step HB.out hb); have BX1 := Aside0.mk (blk_below BX.out hb); have BA1 := Aside0.mk (blk_below BA.out hb); have HS1 := Aside0.mk (HS.out.below HW.out); clear HB BX BA HA hb HS; obtain ⟨xz0, xz1, xz2, xz3, xz4, xz5, xz6, xz7, xz8, xz9, xz10, xz11, xz12, xz13⟩ := c14 BX1.out; obtain ⟨⟨az0, az1, az2, az3, az4, az5, az6, az7, az8, az9, az10, az11⟩, af0, af1, af2, af3, af4, af5, af6, af7, af8, af9, af10, af11⟩ := c12 BA1.out; have mz2 := (blk_cell HS1.out.P 2).trans (show _ = some _ from rfl); have nz0 := (blk_cell HS1.out.Q 0).trans (show _ = some _ from rfl); have lt2 := blk_lt BA1.out; have fz : w1.cell? ⟨0, 9, none⟩ = some (.int .i64 19) := HS1.out.lies.2 9 (by omega))
  go_quiet (fail)
  go_wp2
  go_quiet (fail)
  go_wp2_with (first | (go_at_call 43; refine (HK.out _).mono ?_; rintro e w3 ⟨rfl, hb⟩; replace hb : Below w1.heap.size w1 w3 := ⟨hb.os, hb.tape, hb.output, hb.size, hb.block⟩; have HW2 := Aside0.mk (below_step HW.out hb); have BX2 := Aside0.mk (blk_below BX1.out hb); have BA2 := Aside0.mk (blk_below BA1.out hb); have HS2 := Aside0.mk (HS1.out.below hb); clear HK hb HW HS1 BX1 BA1 xz0 xz1 xz2 xz3 xz4 xz5 xz6 xz7 xz8 xz9 xz10 xz11 xz12 xz13 az0 az1 az2 az3 az4 az5 az6 az7 az8 az9 az10 az11 af0 af1 af2 af3 af4 af5 af6 af7 af8 af9 af10 af11 mz2 nz0 fz lt2; obtain ⟨xz0, xz1, xz2, xz3, xz4, xz5, xz6, xz7, xz8, xz9, xz10, xz11, xz12, xz13⟩ := c14 BX2.out; obtain ⟨⟨az0, az1, az2, az3, az4, az5, az6, az7, az8, az9, az10, az11⟩, af0, af1, af2, af3, af4, af5, af6, af7, af8, af9, af10, af11⟩ := c12 BA2.out; have mz2 := (blk_cell HS2.out.P 2).trans (show _ = some _ from rfl); have nz0 := (blk_cell HS2.out.Q 0).trans (show _ = some _ from rfl); have lt2 := blk_lt BA2.out; have lt3 := blk_lt HS2.out.P; have lt4 := blk_lt BX2.out; have lt5 := blk_lt HS2.out.Q))
  obtain ⟨W, eW⟩ : ∃ W, W = w3.alloc (.cells #[.int .i64 kC, .int .i64 kV.f0, .int .i64 kV.f1, .float .f64 kV.f2, .string kV.f3, .int .i64 kV.f4] 74) := ⟨_, rfl⟩
  have hbW : Below w3.heap.size w3 W := by rw [eW]; exact below_alloc (Below.refl _ _) _
  have HW3 := Aside0.mk (below_step HW2.out hbW)
  have BX3 := Aside0.mk (blk_below BX2.out hbW)
  have BA3 := Aside0.mk (blk_below BA2.out hbW)
  have HS3 := Aside0.mk (HS2.out.below hbW)
  have BK3 := Aside0.mk (show W.heap[w3.heap.size]? = some (.cells #[.int .i64 kC, .int .i64 kV.f0, .int .i64 kV.f1, .float .f64 kV.f2, .string kV.f3, .int .i64 kV.f4] 74 (0, 0)) by rw [eW]; exact heap_alloc_new _ _)
  rw [← eW]
  have NK0 := lt2
  clear eW hbW HW2 BX2 BA2 HS2 xz0 xz1 xz2 xz3 xz4 xz5 xz6 xz7 xz8 xz9 xz10 xz11 xz12 xz13 az0 az1 az2 az3 az4 az5 az6 az7 az8 az9 az10 az11 af0 af1 af2 af3 af4 af5 af6 af7 af8 af9 af10 af11 mz2 nz0 lt2 lt3 lt4 lt5
  generalize w3.heap.size = gK at *
  have s1 := (blk_cell HS3.out.Q 0).trans (show _ = some _ from rfl)
  have s3 := HF9.out W (Kd.R_reads' HS3.out.S).2.2
  obtain ⟨_, _, s2, _⟩ := c14 BX3.out
  obtain ⟨kz0, kz1, kz2, kz3, kz4, kz5⟩ := c6 BK3.out
  obtain ⟨kf0, kf1, kf2, kf3, kf4, kf5⟩ := f6 BK3.out
  have hKS : gK ≠ gS := by omega
  have hKX : gK ≠ w.heap.size := by omega
  have hKs : gK ≠ gs := by omega
  go_region_held3 (fun w' => w'.cell? ⟨gS, 0, none⟩ = some (.slice (some ⟨gs, 0, none⟩) ss.length sc) ∧ w'.cell? ⟨w.heap.size, 2, none⟩ = some (.int .i64 x2) ∧ w'.cell? ⟨gs, x2.toNat, none⟩ = some (.string sK)) (go_keep) (fail)
  obtain ⟨W9, e9⟩ : ∃ W9, W9 = ((((((W.setCell ⟨gK, 0, none⟩ (.int .i64 0)).setCell ⟨gK, 1, none⟩ (.int .i64 4)).setCell ⟨gK, 2, none⟩ (.int .i64 0)).setCell ⟨gK, 3, none⟩ (.float .f64 0)).setCell ⟨gK, 4, none⟩ (.string sK)).setCell ⟨gK, 5, none⟩ (.int .i64 0)).drew := ⟨_, rfl⟩
  have hg : W.grownBy W9 (some gK) := by
    rw [e9]
    exact grown_drew' (grown_setCells W gK 0 [.int .i64 0, .int .i64 4, .int .i64 0, .float .f64 0, .string sK, .int .i64 0])
  have hk9 : KT [74] W W9 := KT.grown hg (fun k e => by injection e with e; subst e; exact ⟨_, _, BK3.out, by simp⟩)
  have BK9 := Aside0.mk (show W9.heap[gK]? = some (.cells #[.int .i64 0, .int .i64 4, .int .i64 0, .float .f64 0, .string sK, .int .i64 0] 74 (0, 0)) by rw [e9, heap_drew]; exact set6 BK3.out)
  have HW9 := Aside0.mk (HW3.out.grown hg HW3.out.size (fun k e => by injection e with e; omega))
  have BX9 := Aside0.mk (hk9.blk BX3.out (by decide))
  have BA9 := Aside0.mk (hk9.blk BA3.out (by decide))
  have HS9 := Aside0.mk (HS3.out.kt hk9 (HS3.out.B.grown hg HS3.out.le (fun k e => by injection e with e; omega)) (by decide) (by decide) (by decide) (by decide))
  rw [← e9]
  clear e9 hg hk9 HW3 BX3 BA3 BK3 HS3 s1 s2 s3 kz0 kz1 kz2 kz3 kz4 kz5 kf0 kf1 kf2 kf3 kf4 kf5 hKS hKX hKs
  have HW3 := HW9
  have BX3 := BX9
  have BA3 := BA9
  have BK3 := BK9
  have HS3 := HS9
  clear HW9 BX9 BA9 BK9 HS9
  go_wp2
  obtain ⟨xz0, xz1, xz2, xz3, xz4, xz5, xz6, xz7, xz8, xz9, xz10, xz11, xz12, xz13⟩ := c14 BX3.out
  have mz2 := (blk_cell HS3.out.P 2).trans (show _ = some _ from rfl)
  have lt3 := blk_lt HS3.out.P
  have lt4 := blk_lt BX3.out
  go_quiet (fail)
  have hbq : Below W9.heap.size W9 (W9.drewN nq) := pw_below_drewN (Below.refl _ _) nq
  generalize W9.drewN nq = W2 at hbq ⊢
  have HW4 := Aside0.mk (below_step HW3.out hbq)
  have BX4 := Aside0.mk (blk_below BX3.out hbq)
  have BA4 := Aside0.mk (blk_below BA3.out hbq)
  have BK4 := Aside0.mk (blk_below BK3.out hbq)
  have HS4 := Aside0.mk (HS3.out.below hbq)
  clear hbq HW3 BX3 BA3 BK3 HS3 xz0 xz1 xz2 xz3 xz4 xz5 xz6 xz7 xz8 xz9 xz10 xz11 xz12 xz13 mz2 lt3 lt4
  obtain ⟨xz0, xz1, xz2, xz3, xz4, xz5, xz6, xz7, xz8, xz9, xz10, xz11, xz12, xz13⟩ := c14 BX4.out
  obtain ⟨⟨az0, az1, az2, az3, az4, az5, az6, az7, az8, az9, az10, az11⟩, af0, af1, af2, af3, af4, af5, af6, af7, af8, af9, af10, af11⟩ := c12 BA4.out
  obtain ⟨kz0, kz1, kz2, kz3, kz4, kz5⟩ := c6 BK4.out
  have lt3 := blk_lt HS4.out.P
  have lt4 := blk_lt BA4.out
  have lt5 := blk_lt BX4.out
  have lt6 := blk_lt BK4.out
  obtain ⟨oki, pv, hR, hx0, hx1, hf0, hf1, -, hPUT⟩ := HLD.out W2 HS4.out.T
  obtain ⟨A0, c0, rfl⟩ := Kd.R_slice hR
  obtain ⟨-, hl0, hc0⟩ := Kd.R_reads' hR
  obtain ⟨gcs, hgc⟩ := HGT.out W2 HS4.out.T
  have GC := Aside0.mk hgc
  have HC := Aside0.mk hc0
  have HR := Aside0.mk hR
  have HPUT := Aside0.mk hPUT
  have lt7 := World.block_lt_of_cell? W2 _ hx0
  have hm : ps.length ≤ 9223372036854775807 := hc0.2.1
  have nzg : ¬ g = w.heap.size + 1 := by omega
  have nzg2 : ¬ w.heap.size + 1 = g := by omega
  clear hR hc0 hPUT HLD hgc
  rcases RG.out with hi | ⟨hi0, hi1⟩
  · subst hi
    by_cases hv : v0 = 0
    · have hvb : (v0 == 0) = true := by rw [hv]; rfl
      obtain ⟨rfl, rfl⟩ : rc = 0 ∧ rT = ⟨ps, tn⟩ := by have := RR.out.trans ((if_neg (by omega)).trans (if_pos hv)); exact ⟨congrArg Prod.fst this, congrArg Prod.snd this⟩
      clear RR
      go_wp2_with (go_at_call 44; refine (HT.out _ _ _ hx0 HC.out).mono ?_; rintro e w5 ⟨rfl, hb⟩; have HQ := Aside0.mk hb; have HW5 := Aside0.mk (below_step HW4.out hb); have BX5 := Aside0.mk (blk_below BX4.out hb); have BA5 := Aside0.mk (blk_below BA4.out hb); have BK5 := Aside0.mk (blk_below BK4.out hb); have HS5 := Aside0.mk (HS4.out.below hb); have yx0 := (hb.cell lt7).trans hx0; have yx1 := (hb.cell (p := ⟨g, x1.toNat * 2 + 1, none⟩) lt7).trans hx1; have yf0 := (hb.frozen (p := ⟨g, x1.toNat * 2, none⟩) lt7).trans hf0; have yf1 := (hb.frozen (p := ⟨g, x1.toNat * 2 + 1, none⟩) lt7).trans hf1; clear hb xz0 xz1 xz2 xz3 xz4 xz5 xz6 xz7 xz8 xz9 xz10 xz11 xz12 xz13 az0 az1 az2 az3 az4 az5 az6 az7 az8 az9 az10 az11 af0 af1 af2 af3 af4 af5 af6 af7 af8 af9 af10 af11 kz0 kz1 kz2 kz3 kz4 kz5; obtain ⟨xz0, xz1, xz2, xz3, xz4, xz5, xz6, xz7, xz8, xz9, xz10, xz11, xz12, xz13⟩ := c14 BX5.out; obtain ⟨⟨az0, az1, az2, az3, az4, az5, az6, az7, az8, az9, az10, az11⟩, af0, af1, af2, af3, af4, af5, af6, af7, af8, af9, af10, af11⟩ := c12 BA5.out; obtain ⟨kz0, kz1, kz2, kz3, kz4, kz5⟩ := c6 BK5.out; have lt8 := blk_lt BA5.out; have lt9 := blk_lt BX5.out; have lt10 := blk_lt BK5.out)
      rw [HSET.out]
      exact bodyPost_ret (ret60 rfl rfl (set12 BA5.out)) rfl (doneI HS5.out (KT.below HW5.out) BA5.out (by omega) (by omega) (codeA 0))
    · have hvb : (v0 == 0) = false := beq_eq_false_iff_ne.mpr hv
      by_cases hf : ((ps.length : Int) = 500) ∨ tn = 1000000000000
      · have HRE : Aside0 (rc = 5 ∧ rT = ⟨ps, tn⟩) := ⟨by have := RR.out.trans ((if_neg (by omega)).trans ((if_neg hv).trans (if_pos hf))); exact ⟨congrArg Prod.fst this, congrArg Prod.snd this⟩⟩
        have HF := Aside0.mk hf
        obtain ⟨rfl, rfl⟩ := HRE.out
        clear hf RR HRE
        cases hq : ((ps.length : Int) == 500)
        · have hqn : (ps.length == 500) = false := by rw [beq_eq_false_iff_ne] at hq ⊢; omega
          have ht : (tn == 1000000000000) = true := by rcases HF.out with h | h <;> simp_all
          go_wp2_with (go_at_call 44; refine (HT.out _ _ _ hx0 HC.out).mono ?_; rintro e w5 ⟨rfl, hb⟩; have HQ := Aside0.mk hb; have HW5 := Aside0.mk (below_step HW4.out hb); have BX5 := Aside0.mk (blk_below BX4.out hb); have BA5 := Aside0.mk (blk_below BA4.out hb); have BK5 := Aside0.mk (blk_below BK4.out hb); have HS5 := Aside0.mk (HS4.out.below hb); have yx0 := (hb.cell lt7).trans hx0; have yx1 := (hb.cell (p := ⟨g, x1.toNat * 2 + 1, none⟩) lt7).trans hx1; have yf0 := (hb.frozen (p := ⟨g, x1.toNat * 2, none⟩) lt7).trans hf0; have yf1 := (hb.frozen (p := ⟨g, x1.toNat * 2 + 1, none⟩) lt7).trans hf1; clear hb xz0 xz1 xz2 xz3 xz4 xz5 xz6 xz7 xz8 xz9 xz10 xz11 xz12 xz13 az0 az1 az2 az3 az4 az5 az6 az7 az8 az9 az10 az11 af0 af1 af2 af3 af4 af5 af6 af7 af8 af9 af10 af11 kz0 kz1 kz2 kz3 kz4 kz5; obtain ⟨xz0, xz1, xz2, xz3, xz4, xz5, xz6, xz7, xz8, xz9, xz10, xz11, xz12, xz13⟩ := c14 BX5.out; obtain ⟨⟨az0, az1, az2, az3, az4, az5, az6, az7, az8, az9, az10, az11⟩, af0, af1, af2, af3, af4, af5, af6, af7, af8, af9, af10, af11⟩ := c12 BA5.out; obtain ⟨kz0, kz1, kz2, kz3, kz4, kz5⟩ := c6 BK5.out; have lt8 := blk_lt BA5.out; have lt9 := blk_lt BX5.out; have lt10 := blk_lt BK5.out)
          rw [HSET.out]
          exact bodyPost_ret (ret60 rfl rfl (set12 BA5.out)) rfl (doneI HS5.out (KT.below HW5.out) BA5.out (by omega) (by omega) (codeA 5))
        · have hqn : (ps.length == 500) = true := by rw [beq_iff_eq] at hq ⊢; omega
          go_wp2_with (go_at_call 44; refine (HT.out _ _ _ hx0 HC.out).mono ?_; rintro e w5 ⟨rfl, hb⟩; have HQ := Aside0.mk hb; have HW5 := Aside0.mk (below_step HW4.out hb); have BX5 := Aside0.mk (blk_below BX4.out hb); have BA5 := Aside0.mk (blk_below BA4.out hb); have BK5 := Aside0.mk (blk_below BK4.out hb); have HS5 := Aside0.mk (HS4.out.below hb); have yx0 := (hb.cell lt7).trans hx0; have yx1 := (hb.cell (p := ⟨g, x1.toNat * 2 + 1, none⟩) lt7).trans hx1; have yf0 := (hb.frozen (p := ⟨g, x1.toNat * 2, none⟩) lt7).trans hf0; have yf1 := (hb.frozen (p := ⟨g, x1.toNat * 2 + 1, none⟩) lt7).trans hf1; clear hb xz0 xz1 xz2 xz3 xz4 xz5 xz6 xz7 xz8 xz9 xz10 xz11 xz12 xz13 az0 az1 az2 az3 az4 az5 az6 az7 az8 az9 az10 az11 af0 af1 af2 af3 af4 af5 af6 af7 af8 af9 af10 af11 kz0 kz1 kz2 kz3 kz4 kz5; obtain ⟨xz0, xz1, xz2, xz3, xz4, xz5, xz6, xz7, xz8, xz9, xz10, xz11, xz12, xz13⟩ := c14 BX5.out; obtain ⟨⟨az0, az1, az2, az3, az4, az5, az6, az7, az8, az9, az10, az11⟩, af0, af1, af2, af3, af4, af5, af6, af7, af8, af9, af10, af11⟩ := c12 BA5.out; obtain ⟨kz0, kz1, kz2, kz3, kz4, kz5⟩ := c6 BK5.out; have lt8 := blk_lt BA5.out; have lt9 := blk_lt BX5.out; have lt10 := blk_lt BK5.out)
          rw [HSET.out]
          exact bodyPost_ret (ret60 rfl rfl (set12 BA5.out)) rfl (doneI HS5.out (KT.below HW5.out) BA5.out (by omega) (by omega) (codeA 5))
      · have HRE : Aside0 (rc = 0 ∧ rT = ⟨ps ++ [⟨strK sK, ⟨v0, v1, v2, v3, v4⟩, tn + 1⟩], tn + 1⟩) := ⟨by have := RR.out.trans ((if_neg (by omega)).trans ((if_neg hv).trans (if_neg hf))); exact ⟨congrArg Prod.fst this, congrArg Prod.snd this⟩⟩
        have hqn : (ps.length == 500) = false := beq_eq_false_iff_ne.mpr (by omega)
        have hqi : ((ps.length : Int) == 500) = false := beq_eq_false_iff_ne.mpr (by omega)
        have ht : (tn == 1000000000000) = false := beq_eq_false_iff_ne.mpr (by omega)
        have htn0 : 0 ≤ tn := HT0.out
        have htn : tn + 1 ≤ 1000000000000 := by have := HT1.out; omega
        obtain ⟨rfl, rfl⟩ := HRE.out
        clear hf RR HRE
        go_wp2_with (go_at_call 44; refine (HT.out _ _ _ hx0 HC.out).mono ?_; rintro e w5 ⟨rfl, hb⟩; have HQ := Aside0.mk hb; have HW5 := Aside0.mk (below_step HW4.out hb); have BX5 := Aside0.mk (blk_below BX4.out hb); have BA5 := Aside0.mk (blk_below BA4.out hb); have BK5 := Aside0.mk (blk_below BK4.out hb); have HS5 := Aside0.mk (HS4.out.below hb); have yx0 := (hb.cell lt7).trans hx0; have yx1 := (hb.cell (p := ⟨g, x1.toNat * 2 + 1, none⟩) lt7).trans hx1; have yf0 := (hb.frozen (p := ⟨g, x1.toNat * 2, none⟩) lt7).trans hf0; have yf1 := (hb.frozen (p := ⟨g, x1.toNat * 2 + 1, none⟩) lt7).trans hf1; clear hb xz0 xz1 xz2 xz3 xz4 xz5 xz6 xz7 xz8 xz9 xz10 xz11 xz12 xz13 az0 az1 az2 az3 az4 az5 az6 az7 az8 az9 az10 az11 af0 af1 af2 af3 af4 af5 af6 af7 af8 af9 af10 af11 kz0 kz1 kz2 kz3 kz4 kz5; obtain ⟨xz0, xz1, xz2, xz3, xz4, xz5, xz6, xz7, xz8, xz9, xz10, xz11, xz12, xz13⟩ := c14 BX5.out; obtain ⟨⟨az0, az1, az2, az3, az4, az5, az6, az7, az8, az9, az10, az11⟩, af0, af1, af2, af3, af4, af5, af6, af7, af8, af9, af10, af11⟩ := c12 BA5.out; obtain ⟨kz0, kz1, kz2, kz3, kz4, kz5⟩ := c6 BK5.out; have lt8 := blk_lt BA5.out; have lt9 := blk_lt BX5.out; have lt10 := blk_lt BK5.out)
        obtain ⟨W6, e6⟩ : ∃ W6, W6 = w5.setCell ⟨g, x1.toNat * 2 + 1, none⟩ (.int .i64 (tn + 1)) := ⟨_, rfl⟩
        obtain ⟨ok2, pv2, hR2, hy0, hy1, hyf, hPUT2⟩ := HL2.out w5 HS5.out.T W6 e6
        obtain rfl : .slice A0 ps.length c0 = pv2 := Option.some.inj (yx0.symm.trans hy1)
        have hk6 : KT [78, 88] w5 W6 := by rw [e6]; exact KT.set (blk_below GC.out HQ.out) (by simp) _
        have HB6 := Aside0.mk (show Below base w0 W6 by rw [e6]; exact HS5.out.B.setCell HGB.out _)
        have BX6 := Aside0.mk (hk6.blk BX5.out (by decide))
        have BA6 := Aside0.mk (hk6.blk BA5.out (by decide))
        have BK6 := Aside0.mk (hk6.blk BK5.out (by decide))
        have s11 : W6.cell? ⟨g, x1.toNat * 2 + 1, none⟩ = some (.int .i64 (tn + 1)) := by rw [e6]; exact World.cell?_setCell_same _ _ _ yx1
        obtain ⟨hc6, hb6⟩ : ∃ cs, W6.heap[g]? = some (Obj.cells cs 78 (0, 0)) := by rw [e6]; exact ⟨_, blk_set (blk_below GC.out HQ.out) _ _⟩
        have HB6g := Aside0.mk hb6
        have NG := Aside0.mk (Kd.R_ne hR2 hb6 (by decide))
        have NK := Aside0.mk (Kd.R_ne hR2 BK6.out (by decide))
        have NX := Aside0.mk (Kd.R_ne hR2 BX6.out (by decide))
        have HR6 := Aside0.mk hR2
        have HP6 := Aside0.mk hPUT2
        have HK6 := Aside0.mk hk6
        have HSZ := Aside0.mk (show base ≤ W6.heap.size from Nat.le_trans HS5.out.le hk6.1)
        have QW : Aside0 (IntKind.i64.wrap (tn + 1) = tn + 1) := ⟨IntWalk.i64_in _ ⟨by omega, by omega⟩⟩
        have nk : g ≠ gK := by omega
        have nx : g ≠ w.heap.size := by omega
        rw [← e6]
        clear e6 hR2 hPUT2 hk6 hb6 hy1 xz0 xz1 xz2 xz3 xz4 xz5 xz6 xz7 xz8 xz9 xz10 xz11 xz12 xz13 az0 az1 az2 az3 az4 az5 az6 az7 az8 az9 az10 az11 af0 af1 af2 af3 af4 af5 af6 af7 af8 af9 af10 af11 kz0 kz1 kz2 kz3 kz4 kz5 yx0 yx1 yf0 yf1 lt8 lt9 lt10 HPUT HR HL2
        obtain ⟨_, _, _, _, _, _, _, _, _, s6, s7, s8, s9, s10⟩ := c14 BX6.out
        obtain ⟨_, s1, s2, s3, s4, s5⟩ := c6 BK6.out
        obtain ⟨⟨az0, az1, az2, az3, az4, az5, az6, az7, az8, az9, az10, az11⟩, af0, af1, af2, af3, af4, af5, af6, af7, af8, af9, af10, af11⟩ := c12 BA6.out
        have lt8 := blk_lt BA6.out
        have lt9 := blk_lt BX6.out
        have lt10 := blk_lt BK6.out
        have LG : g < W6.heap.size := blk_lt HB6g.out
        refine wp_region_held_drew (S := (fun w' => w'.cell? ⟨gK, 1, none⟩ = some (.int .i64 4) ∧ w'.cell? ⟨gK, 2, none⟩ = some (.int .i64 0) ∧ w'.cell? ⟨gK, 3, none⟩ = some (.float .f64 0) ∧ w'.cell? ⟨gK, 4, none⟩ = some (.string sK) ∧ w'.cell? ⟨gK, 5, none⟩ = some (.int .i64 0) ∧ w'.cell? ⟨w.heap.size, 9, none⟩ = some (.int .i64 v0) ∧ w'.cell? ⟨w.heap.size, 10, none⟩ = some (.int .i64 v1) ∧ w'.cell? ⟨w.heap.size, 11, none⟩ = some (.float .f64 v2) ∧ w'.cell? ⟨w.heap.size, 12, none⟩ = some (.string v3) ∧ w'.cell? ⟨w.heap.size, 13, none⟩ = some (.int .i64 v4) ∧ w'.cell? ⟨g, x1.toNat * 2 + 1, none⟩ = some (.int .i64 (tn + 1)))) (by kernel_rfl) (by go_keep) (fun hHeld => ?_)
        refine wpAnyH_take (i := 0) (v := ?_) rfl (by kernel_rfl) (by kernel_rfl) (by kernel_rfl) (fun _ _ _ h => h) (Or.inl ⟨by rfl, ?_⟩) (by assumption) ?_
        rotate_left
        · intro w' hSw; go_simp; try with_reducible rfl
        try simp only [List.getElem_toArray, List.getElem_cons_zero, List.getElem_cons_succ, Act.put, List.setIfInBounds_toArray, List.set_cons_zero, List.set_cons_succ]
        refine wpAnyH_take (i := 1) (v := ?_) rfl (by kernel_rfl) (by kernel_rfl) (by kernel_rfl) (fun _ _ _ h => h) (Or.inl ⟨by rfl, ?_⟩) (by assumption) ?_
        rotate_left
        · intro w' hSw; go_simp; try with_reducible rfl
        try simp only [List.getElem_toArray, List.getElem_cons_zero, List.getElem_cons_succ, Act.put, List.setIfInBounds_toArray, List.set_cons_zero, List.set_cons_succ]
        refine wpAnyH_take (i := 2) (v := ?_) rfl (by kernel_rfl) (by kernel_rfl) (by kernel_rfl) (fun _ _ _ h => h) (Or.inl ⟨by rfl, ?_⟩) (by assumption) ?_
        rotate_left
        · intro w' hSw; go_simp; try with_reducible rfl
        try simp only [List.getElem_toArray, List.getElem_cons_zero, List.getElem_cons_succ, Act.put, List.setIfInBounds_toArray, List.set_cons_zero, List.set_cons_succ]
        refine wpAnyH_take (i := 3) (v := ?_) rfl (by kernel_rfl) (by kernel_rfl) (by kernel_rfl) (fun _ _ _ h => h) (Or.inl ⟨by rfl, ?_⟩) (by assumption) ?_
        rotate_left
        · intro w' hSw; go_simp; try with_reducible rfl
        try simp only [List.getElem_toArray, List.getElem_cons_zero, List.getElem_cons_succ, Act.put, List.setIfInBounds_toArray, List.set_cons_zero, List.set_cons_succ]
        refine wpAnyH_take (i := 5) (v := ?_) rfl (by kernel_rfl) (by kernel_rfl) (by kernel_rfl) (fun _ _ _ h => h) (Or.inl ⟨by rfl, ?_⟩) (by assumption) ?_
        rotate_left
        · intro w' hSw; go_simp; try with_reducible rfl
        try simp only [List.getElem_toArray, List.getElem_cons_zero, List.getElem_cons_succ, Act.put, List.setIfInBounds_toArray, List.set_cons_zero, List.set_cons_succ]
        refine wpAnyH_take (i := 6) (v := ?_) rfl (by kernel_rfl) (by kernel_rfl) (by kernel_rfl) (fun _ _ _ h => h) (Or.inl ⟨by rfl, ?_⟩) (by assumption) ?_
        rotate_left
        · intro w' hSw; go_simp; try with_reducible rfl
        try simp only [List.getElem_toArray, List.getElem_cons_zero, List.getElem_cons_succ, Act.put, List.setIfInBounds_toArray, List.set_cons_zero, List.set_cons_succ]
        refine wpAnyH_take (i := 7) (v := ?_) rfl (by kernel_rfl) (by kernel_rfl) (by kernel_rfl) (fun _ _ _ h => h) (Or.inl ⟨by rfl, ?_⟩) (by assumption) ?_
        rotate_left
        · intro w' hSw; go_simp; try with_reducible rfl
        try simp only [List.getElem_toArray, List.getElem_cons_zero, List.getElem_cons_succ, Act.put, List.setIfInBounds_toArray, List.set_cons_zero, List.set_cons_succ]
        refine wpAnyH_take (i := 8) (v := ?_) rfl (by kernel_rfl) (by kernel_rfl) (by kernel_rfl) (fun _ _ _ h => h) (Or.inl ⟨by rfl, ?_⟩) (by assumption) ?_
        rotate_left
        · intro w' hSw; go_simp; try with_reducible rfl
        try simp only [List.getElem_toArray, List.getElem_cons_zero, List.getElem_cons_succ, Act.put, List.setIfInBounds_toArray, List.set_cons_zero, List.set_cons_succ]
        refine wpAnyH_take (i := 9) (v := ?_) rfl (by kernel_rfl) (by kernel_rfl) (by kernel_rfl) (fun _ _ _ h => h) (Or.inl ⟨by rfl, ?_⟩) (by assumption) ?_
        rotate_left
        · intro w' hSw; go_simp; try with_reducible rfl
        try simp only [List.getElem_toArray, List.getElem_cons_zero, List.getElem_cons_succ, Act.put, List.setIfInBounds_toArray, List.set_cons_zero, List.set_cons_succ]
        refine wpAnyH_take (i := 10) (v := ?_) rfl (by kernel_rfl) (by kernel_rfl) (by kernel_rfl) (fun _ _ _ h => h) (Or.inl ⟨by rfl, ?_⟩) (by assumption) ?_
        rotate_left
        · intro w' hSw; go_simp; try with_reducible rfl
        try simp only [List.getElem_toArray, List.getElem_cons_zero, List.getElem_cons_succ, Act.put, List.setIfInBounds_toArray, List.set_cons_zero, List.set_cons_succ]
        refine wpAnyH_take (i := 11) (v := ?_) rfl (by kernel_rfl) (by kernel_rfl) (by kernel_rfl) (fun _ _ _ h => h) (Or.inl ⟨by rfl, ?_⟩) (by assumption) ?_
        rotate_left
        · intro w' hSw; go_simp; try with_reducible rfl
        try simp only [List.getElem_toArray, List.getElem_cons_zero, List.getElem_cons_succ, Act.put, List.setIfInBounds_toArray, List.set_cons_zero, List.set_cons_succ]
        refine wpAnyH_take (i := 12) (v := ?_) rfl (by kernel_rfl) (by kernel_rfl) (by kernel_rfl) (fun _ _ _ h => h) (Or.inl ⟨by rfl, ?_⟩) (by assumption) ?_
        rotate_left
        · intro w' hSw; go_simp; try with_reducible rfl
        try simp only [List.getElem_toArray, List.getElem_cons_zero, List.getElem_cons_succ, Act.put, List.setIfInBounds_toArray, List.set_cons_zero, List.set_cons_succ]
        refine wpAnyH_take (i := 13) (v := ?_) rfl (by kernel_rfl) (by kernel_rfl) (by kernel_rfl) (fun _ _ _ h => h) (Or.inl ⟨by rfl, ?_⟩) (by assumption) ?_
        rotate_left
        · intro w' hSw; go_simp; try with_reducible rfl
        try simp only [List.getElem_toArray, List.getElem_cons_zero, List.getElem_cons_succ, Act.put, List.setIfInBounds_toArray, List.set_cons_zero, List.set_cons_succ]
        refine wpAnyH_ready (rs := [4, 14]) (by kernel_rfl) (by simp) ?_
        refine AllReadyH.cons rfl (fun K hK => ?_) (AllReadyH.cons rfl (fun K hK => ?_) AllReadyH.nil)
        go_simp
        refine hK.out _ _ (by go_keep) (fun hHeld => ?_)
        try simp only [List.getElem_toArray, List.getElem_cons_zero, List.getElem_cons_succ, Act.put, List.setIfInBounds_toArray, List.set_cons_zero, List.set_cons_succ]
        refine wpAnyH_ready (rs := [14]) (by kernel_rfl) (by simp) ?_
        refine AllReadyH.cons rfl (fun K hK => ?_) AllReadyH.nil
        go_simp
        refine hK.out _ _ (by go_keep) (fun hHeld => ?_)
        try simp only [List.getElem_toArray, List.getElem_cons_zero, List.getElem_cons_succ, Act.put, List.setIfInBounds_toArray, List.set_cons_zero, List.set_cons_succ]
        rotate_left
        go_simp
        refine hK.out _ _ (by go_keep) (fun hHeld => ?_)
        try simp only [List.getElem_toArray, List.getElem_cons_zero, List.getElem_cons_succ, Act.put, List.setIfInBounds_toArray, List.set_cons_zero, List.set_cons_succ]
        refine wpAnyH_ready (rs := [4]) (by kernel_rfl) (by simp) ?_
        refine AllReadyH.cons rfl (fun K hK => ?_) AllReadyH.nil
        go_simp
        refine hK.out _ _ (by go_keep) (fun hHeld => ?_)
        try simp only [List.getElem_toArray, List.getElem_cons_zero, List.getElem_cons_succ, Act.put, List.setIfInBounds_toArray, List.set_cons_zero, List.set_cons_succ]
        all_goals
          refine wpAnyH_ready (rs := [15]) (by kernel_rfl) (by simp) ?_
          refine AllReadyH.cons rfl (fun K hK => ?_) AllReadyH.nil
          simp only [List.getElem_toArray, List.getElem_cons_zero, List.getElem_cons_succ]
          (((try rw [QW.out]); (rw [alloc_drew]); refine Kd.R_append_step k88 (w0 := w0) (W := W6.drew) (a := ⟨_, _⟩) base (by rfl) (.tmp 159) (.tmp 169) 76 88 (.agg #[.int .i64 0, .int .i64 0, .float .f64 0, .string ⟨#[]⟩, .int .i64 0, .int .i64 0, .int .i64 0, .float .f64 0, .string ⟨#[]⟩, .int .i64 0, .int .i64 0]) 104 (by rfl) Tryd.underlying76 info88t (by rfl) (by decide) (by decide) (.slice A0 ps.length c0) ps ⟨strK sK, ⟨v0, v1, v2, v3, v4⟩, tn + 1⟩ [.int .i64 4, .int .i64 0, .float .f64 0, .string sK, .int .i64 0, .int .i64 v0, .int .i64 v1, .float .f64 v2, .string v3, .int .i64 v4, .int .i64 (tn + 1)] (fun k => ok2 k ∨ W6.heap.size ≤ k) (fun _ => False) (by first | rfl | simp [Act.eval, Act.put]) (by first | rfl | simp [Act.eval, Act.put]) (k88_mkM _ _ _ ⟨strK sK, ⟨v0, v1, v2, v3, v4⟩, tn + 1⟩) (fun _ hk => hk.elim) (fun _ hk => .inr hk) (Kd.R_mono (Kd.R_drew HR6.out) (fun _ hk => .inl hk)) (below_drew HB6.out) HSZ.out (by have := H5.out; omega) ?_; intro lv w7 hr7 hb7 hg7 _; obtain ⟨lA, lc, le⟩ := Kd.R_slice hr7; subst le; have cz := hg7.cell (show W6.drew.cell? ⟨g, x1.toNat * 2, none⟩ = _ from hy0) NG.out; have fz := (World.frozen?_of_block (a := ⟨g, x1.toNat * 2, none⟩) (hg7.block g LG NG.out)).trans hyf; have HR7 := Aside0.mk hr7; have HB7 := Aside0.mk hb7; have HG3 := Aside0.mk hg7; clear hr7 hb7 hg7))
          refine hK.out _ _ (by exact ⟨HG3.out.cell (show W6.drew.cell? ⟨gK, 1, none⟩ = _ from s1) NK.out, HG3.out.cell (show W6.drew.cell? ⟨gK, 2, none⟩ = _ from s2) NK.out, HG3.out.cell (show W6.drew.cell? ⟨gK, 3, none⟩ = _ from s3) NK.out, HG3.out.cell (show W6.drew.cell? ⟨gK, 4, none⟩ = _ from s4) NK.out, HG3.out.cell (show W6.drew.cell? ⟨gK, 5, none⟩ = _ from s5) NK.out, HG3.out.cell (show W6.drew.cell? ⟨w.heap.size, 9, none⟩ = _ from s6) NX.out, HG3.out.cell (show W6.drew.cell? ⟨w.heap.size, 10, none⟩ = _ from s7) NX.out, HG3.out.cell (show W6.drew.cell? ⟨w.heap.size, 11, none⟩ = _ from s8) NX.out, HG3.out.cell (show W6.drew.cell? ⟨w.heap.size, 12, none⟩ = _ from s9) NX.out, HG3.out.cell (show W6.drew.cell? ⟨w.heap.size, 13, none⟩ = _ from s10) NX.out, HG3.out.cell (show W6.drew.cell? ⟨g, x1.toNat * 2 + 1, none⟩ = _ from s11) NG.out⟩) (fun hHeld => ?_)
          try simp only [List.getElem_toArray, List.getElem_cons_zero, List.getElem_cons_succ, Act.put, List.setIfInBounds_toArray, List.set_cons_zero, List.set_cons_succ]
          refine wpAnyH_take (i := 16) (v := ?_) rfl (by kernel_rfl) (by kernel_rfl) (by kernel_rfl) (fun _ _ _ h => h) (Or.inl ⟨by rfl, ?_⟩) (by assumption) ?_
          rotate_left
          · intro w' hSw; go_simp; try with_reducible rfl
          try simp only [List.getElem_toArray, List.getElem_cons_zero, List.getElem_cons_succ, Act.put, List.setIfInBounds_toArray, List.set_cons_zero, List.set_cons_succ]
          refine wpAnyH_take (i := 17) (v := ?_) rfl (by kernel_rfl) (by kernel_rfl) (by kernel_rfl) (fun _ _ _ h => h) (Or.inl ⟨by rfl, ?_⟩) (by assumption) ?_
          rotate_left
          · intro w' hSw; go_simp; try with_reducible rfl
          try simp only [List.getElem_toArray, List.getElem_cons_zero, List.getElem_cons_succ, Act.put, List.setIfInBounds_toArray, List.set_cons_zero, List.set_cons_succ]
          refine wpAnyH_ready (rs := [18]) (by kernel_rfl) (by simp) ?_
          refine AllReadyH.cons rfl (fun K hK => ?_) AllReadyH.nil
          go_simp
          refine hK.out _ _ (by exact ⟨(World.cell?_setCell_other _ _ _ _ (fun e => nk (by injection e))).trans hHeld.1, (World.cell?_setCell_other _ _ _ _ (fun e => nk (by injection e))).trans hHeld.2.1, (World.cell?_setCell_other _ _ _ _ (fun e => nk (by injection e))).trans hHeld.2.2.1, (World.cell?_setCell_other _ _ _ _ (fun e => nk (by injection e))).trans hHeld.2.2.2.1, (World.cell?_setCell_other _ _ _ _ (fun e => nk (by injection e))).trans hHeld.2.2.2.2.1, (World.cell?_setCell_other _ _ _ _ (fun e => nx (by injection e))).trans hHeld.2.2.2.2.2.1, (World.cell?_setCell_other _ _ _ _ (fun e => nx (by injection e))).trans hHeld.2.2.2.2.2.2.1, (World.cell?_setCell_other _ _ _ _ (fun e => nx (by injection e))).trans hHeld.2.2.2.2.2.2.2.1, (World.cell?_setCell_other _ _ _ _ (fun e => nx (by injection e))).trans hHeld.2.2.2.2.2.2.2.2.1, (World.cell?_setCell_other _ _ _ _ (fun e => nx (by injection e))).trans hHeld.2.2.2.2.2.2.2.2.2.1, (World.cell?_setCell_other _ _ _ _ (by intro e; injection e with _ e; omega)).trans hHeld.2.2.2.2.2.2.2.2.2.2⟩) (fun hHeld => ?_)
          try simp only [List.getElem_toArray, List.getElem_cons_zero, List.getElem_cons_succ, Act.put, List.setIfInBounds_toArray, List.set_cons_zero, List.set_cons_succ]
          refine wpAnyH_done (by kernel_rfl) ?_ _
          have hg7 := grown_drew HG3.out
          have hk7 : KT [78, 88] W6 w7 := KT.grown hg7 (fun k hk => by obtain ⟨cs, hc⟩ := Kd.R_typed HR6.out k hk; exact ⟨cs, _, hc, by simp⟩)
          have hk8 := (HK6.out.trans hk7).trans (KT.set (j := x1.toNat * 2) ((hg7.block g LG NG.out).trans HB6g.out) (by simp) (.slice lA (ps ++ [(⟨strK sK, ⟨v0, v1, v2, v3, v4⟩, tn + 1⟩ : S88)]).length lc))
          have BA7 := Aside0.mk (hk7.blk BA6.out (by decide))
          have BA8 := Aside0.mk (hk8.blk BA5.out (by decide))
          have HS8 := Aside0.mk (HS5.out.tabs hk8 (HB7.out.setCell HGB.out _) (HP6.out w7 hg7.size (fun k hk hn => hg7.block k hk (fun e => hn (HR6.out.1 k e.symm))) _ _ HR7.out))
          have HK8 := Aside0.mk ((KT.below (L := stI) HW5.out).trans (hk8.mono (by decide)))
          clear hg7 hk7 hk8 s1 s2 s3 s4 s5 s6 s7 s8 s9 s10 s11 az0 az1 az2 az3 az4 az5 az6 az7 az8 az9 az10 az11 af0 af1 af2 af3 af4 af5 af6 af7 af8 af9 af10 af11
          obtain ⟨⟨az0, az1, az2, az3, az4, az5, az6, az7, az8, az9, az10, az11⟩, af0, af1, af2, af3, af4, af5, af6, af7, af8, af9, af10, af11⟩ := c12 BA7.out
          have lt11 := blk_lt BA7.out
          rw [show (ps ++ [(⟨strK sK, ⟨v0, v1, v2, v3, v4⟩, tn + 1⟩ : S88)]).length = ps.length + 1 by simp] at BA8 HS8 HK8
          go_wp2
          exact bodyPost_ret (ret60 rfl rfl (set12 BA8.out)) rfl (doneI HS8.out HK8.out BA8.out (by omega) (by omega) (codeA 0))
  · obtain ⟨m, rfl⟩ : ∃ m : Nat, i = (m : Int) := ⟨i.toNat, by omega⟩
    have hml : m < ps.length := by omega
    obtain ⟨gp, cp, he, hgb, hgl, pcs, hpc⟩ := Kd.R_form HR.out (by omega)
    injection he with he1 _ he3
    subst he1; subst he3
    have PC := Aside0.mk hpc
    have OK := Aside0.mk (HR.out.1 gp (by simp [Value.ownBlock]))
    have hq0 : 0 ≤ (m : Int) := by omega
    have hq1 : (m : Int) < (ps.length : Int) := by omega
    have NGP : Aside0 (some g ≠ some gp) := ⟨Kd.R_ne HR.out GC.out (by decide)⟩
    have ngp : gp ≠ g := fun e => NGP.out (by rw [e])
    have nap : gp ≠ w.heap.size + 1 := fun e => Kd.R_ne HR.out BA4.out (by decide) (by rw [← e]; rfl)
    have nxp : gp ≠ w.heap.size := fun e => Kd.R_ne HR.out BX4.out (by decide) (by rw [← e]; rfl)
    have nap2 : ¬ gp = w.heap.size + 1 := nap
    clear hpc
    by_cases hv : v0 = 0
    · have hvb : (v0 == 0) = true := by rw [hv]; rfl
      have HRE : Aside0 (rc = 0 ∧ rT = ⟨ps.eraseIdx m, tn⟩) := ⟨by have := RR.out.trans ((if_pos (by omega)).trans (if_pos hv)); exact ⟨congrArg Prod.fst this, congrArg Prod.snd this⟩⟩
      obtain ⟨rfl, rfl⟩ := HRE.out
      clear RR HRE
      have HDEL : Aside0 (∀ w5, Below W2.heap.size W2 w5 → Below base w0 w5 → base ≤ w5.heap.size → Calls Tryd.prog 45 #[.slice (some ⟨gp, 0, none⟩) ps.length c0, .int .i64 (m : Int), .int .i64 ((m : Int) + 1)] w5 fun e w' => e = .returned (.slice (some ⟨gp, 0, none⟩) (ps.length - 1) c0) ∧
          Kd.R k88 88 w' base (fun _ => True) (.slice (some ⟨gp, 0, none⟩) (ps.length - 1) c0) (ps.eraseIdx m) ∧ Below base w0 w' ∧ w5.grownBy w' (some gp)) := ⟨fun w5 hb hB hle => by
        have := del_calls ps gp c0 m base w0 w5 hB hle hml (Kd.R_mono (Kd.R_below HR.out hb) (fun _ _ => trivial))
        rwa [show ((m + 1 : Nat) : Int) = (m : Int) + 1 from rfl] at this⟩
      go_wp2_with (first | (go_at_call 44; refine (HT.out _ _ _ hx0 HC.out).mono ?_; rintro e w5 ⟨rfl, hb⟩; have HQ := Aside0.mk hb; have HW5 := Aside0.mk (below_step HW4.out hb); have BX5 := Aside0.mk (blk_below BX4.out hb); have BA5 := Aside0.mk (blk_below BA4.out hb); have BK5 := Aside0.mk (blk_below BK4.out hb); have HS5 := Aside0.mk (HS4.out.below hb); have yx0 := (hb.cell lt7).trans hx0; have yx1 := (hb.cell (p := ⟨g, x1.toNat * 2 + 1, none⟩) lt7).trans hx1; have yf0 := (hb.frozen (p := ⟨g, x1.toNat * 2, none⟩) lt7).trans hf0; have yf1 := (hb.frozen (p := ⟨g, x1.toNat * 2 + 1, none⟩) lt7).trans hf1; clear hb xz0 xz1 xz2 xz3 xz4 xz5 xz6 xz7 xz8 xz9 xz10 xz11 xz12 xz13 az0 az1 az2 az3 az4 az5 az6 az7 az8 az9 az10 az11 af0 af1 af2 af3 af4 af5 af6 af7 af8 af9 af10 af11 kz0 kz1 kz2 kz3 kz4 kz5; obtain ⟨xz0, xz1, xz2, xz3, xz4, xz5, xz6, xz7, xz8, xz9, xz10, xz11, xz12, xz13⟩ := c14 BX5.out; obtain ⟨⟨az0, az1, az2, az3, az4, az5, az6, az7, az8, az9, az10, az11⟩, af0, af1, af2, af3, af4, af5, af6, af7, af8, af9, af10, af11⟩ := c12 BA5.out; obtain ⟨kz0, kz1, kz2, kz3, kz4, kz5⟩ := c6 BK5.out; have lt8 := blk_lt BA5.out; have lt9 := blk_lt BX5.out; have lt10 := blk_lt BK5.out) | (go_at_call 45; refine (HDEL.out _ HQ.out HS5.out.B HS5.out.le).mono ?_; rintro e w6 ⟨rfl, hr6, hb6, hg6⟩; have LG5 := blk_lt (blk_below GC.out HQ.out); have cz := hg6.cell yx0 NGP.out; have fz := (World.frozen?_of_block (a := ⟨g, x1.toNat * 2, none⟩) (hg6.block g LG5 NGP.out)).trans yf0; have HG6 := Aside0.mk ((hg6.block g LG5 NGP.out).trans (blk_below GC.out HQ.out)); have HK6 := Aside0.mk (show KT [78, 88] w5 w6 from KT.grown hg6 (fun k hk => by injection hk with hk; subst hk; exact ⟨pcs, _, blk_below PC.out HQ.out, by simp⟩)); have HR6 := Aside0.mk hr6; have HB6 := Aside0.mk hb6; have HN6 := Aside0.mk hg6; have BA6 := Aside0.mk (HK6.out.blk BA5.out (by decide)); clear hr6 hb6 hg6 yx0 yf0 az0 az1 az2 az3 az4 az5 az6 az7 az8 az9 az10 az11 af0 af1 af2 af3 af4 af5 af6 af7 af8 af9 af10 af11; obtain ⟨⟨az0, az1, az2, az3, az4, az5, az6, az7, az8, az9, az10, az11⟩, af0, af1, af2, af3, af4, af5, af6, af7, af8, af9, af10, af11⟩ := c12 BA6.out; have lt11 := blk_lt BA6.out))
      have hk7 := HK6.out.trans (KT.set (j := x1.toNat * 2) HG6.out (by simp) (.slice (some ⟨gp, 0, none⟩) (ps.length - 1) c0))
      have hT7 := (HPUT.out w6 (Nat.le_trans HQ.out.size HN6.out.size) (fun k hk hn => (HN6.out.block k (Nat.lt_of_lt_of_le hk HQ.out.size) (fun e => hn (by injection e with e; subst e; exact OK.out))).trans (HQ.out.block k hk)) _ _ (Kd.R_reok (ok := fun k => oki k ∨ W2.heap.size ≤ k) rfl HR6.out (fun k hk => .inl (by injection hk with hk; subst hk; exact OK.out)))).2
      exact bodyPost_ret (ret60 rfl rfl (set12 (hk7.blk BA5.out (by decide)))) rfl (doneI (HS5.out.tabs hk7 (HB6.out.setCell HGB.out _) hT7) ((KT.below (L := stI) HW5.out).trans (hk7.mono (by decide))) (hk7.blk BA5.out (by decide)) (by omega) (by omega) (codeA 0))
    · have hvb : (v0 == 0) = false := beq_eq_false_iff_ne.mpr hv
      have HRE : Aside0 (rc = 0 ∧ rT = ⟨ps.set m ⟨(rd_T88 ps m).f0, ⟨v0, v1, v2, v3, v4⟩, (rd_T88 ps m).f2⟩, tn⟩) := ⟨by have := RR.out.trans ((if_pos (by omega)).trans (if_neg hv)); exact ⟨congrArg Prod.fst this, congrArg Prod.snd this⟩⟩
      obtain ⟨rfl, rfl⟩ := HRE.out
      clear RR HRE
      have HP := Aside0.mk (fun W1 (hb : Below W2.heap.size W2 W1) => P_val (Kd.R_below HR.out hb) m hml ⟨v0, v1, v2, v3, v4⟩)
      clear hml
      go_wp2_with (go_at_call 44; refine (HT.out _ _ _ hx0 HC.out).mono ?_; rintro e w5 ⟨rfl, hb⟩; have HQ := Aside0.mk hb; have HW5 := Aside0.mk (below_step HW4.out hb); have BX5 := Aside0.mk (blk_below BX4.out hb); have BA5 := Aside0.mk (blk_below BA4.out hb); have BK5 := Aside0.mk (blk_below BK4.out hb); have HS5 := Aside0.mk (HS4.out.below hb); have yx0 := (hb.cell lt7).trans hx0; have yx1 := (hb.cell (p := ⟨g, x1.toNat * 2 + 1, none⟩) lt7).trans hx1; have yf0 := (hb.frozen (p := ⟨g, x1.toNat * 2, none⟩) lt7).trans hf0; have yf1 := (hb.frozen (p := ⟨g, x1.toNat * 2 + 1, none⟩) lt7).trans hf1; clear hb xz0 xz1 xz2 xz3 xz4 xz5 xz6 xz7 xz8 xz9 xz10 xz11 xz12 xz13 az0 az1 az2 az3 az4 az5 az6 az7 az8 az9 az10 az11 af0 af1 af2 af3 af4 af5 af6 af7 af8 af9 af10 af11 kz0 kz1 kz2 kz3 kz4 kz5; obtain ⟨xz0, xz1, xz2, xz3, xz4, xz5, xz6, xz7, xz8, xz9, xz10, xz11, xz12, xz13⟩ := c14 BX5.out; obtain ⟨⟨az0, az1, az2, az3, az4, az5, az6, az7, az8, az9, az10, az11⟩, af0, af1, af2, af3, af4, af5, af6, af7, af8, af9, af10, af11⟩ := c12 BA5.out; obtain ⟨kz0, kz1, kz2, kz3, kz4, kz5⟩ := c6 BK5.out; have lt8 := blk_lt BA5.out; have lt9 := blk_lt BX5.out; have lt10 := blk_lt BK5.out; obtain ⟨hv1, hv2, hv3, hv4⟩ := HP.out w5 HQ.out; have HV1 := Aside0.mk hv1; have HV2 := Aside0.mk hv2; have pf5 := hv3 5; have pf6 := hv3 6; have pf7 := hv3 7; have pf8 := hv3 8; have pf9 := hv3 9; obtain ⟨u5, pz5⟩ := hv4 5 (by omega); obtain ⟨u6, pz6⟩ := hv4 6 (by omega); obtain ⟨u7, pz7⟩ := hv4 7 (by omega); obtain ⟨u8, pz8⟩ := hv4 8 (by omega); obtain ⟨u9, pz9⟩ := hv4 9 (by omega); clear hv1 hv2 hv3 hv4)
      obtain ⟨_, _, _, _, _, _, _, _, _, s6, s7, s8, s9, s10⟩ := c14 BX5.out
      go_region_held3 (fun w' => w'.cell? ⟨g, x1.toNat * 2, none⟩ = some (.slice (some ⟨gp, 0, none⟩) ps.length c0) ∧ w'.cell? ⟨w.heap.size, 9, none⟩ = some (.int .i64 v0) ∧ w'.cell? ⟨w.heap.size, 10, none⟩ = some (.int .i64 v1) ∧ w'.cell? ⟨w.heap.size, 11, none⟩ = some (.float .f64 v2) ∧ w'.cell? ⟨w.heap.size, 12, none⟩ = some (.string v3) ∧ w'.cell? ⟨w.heap.size, 13, none⟩ = some (.int .i64 v4)) (go_keep) (fail)
      obtain ⟨W9, e9⟩ : ∃ W9, W9 = (((((w5.setCell ⟨gp, m * 11 + 5, none⟩ (.int .i64 v0)).setCell ⟨gp, m * 11 + 5 + 1, none⟩ (.int .i64 v1)).setCell ⟨gp, m * 11 + 5 + 2, none⟩ (.float .f64 v2)).setCell ⟨gp, m * 11 + 5 + 3, none⟩ (.string v3)).setCell ⟨gp, m * 11 + 5 + 4, none⟩ (.int .i64 v4)).drew := ⟨_, rfl⟩
      have hg9 : w5.grownBy W9 (some gp) := by rw [e9]; exact grown_drew' HV2.out
      have hr9 := Kd.R_drew HV1.out
      have hr9 : k88.R 88 W9 base oki (.slice (some ⟨gp, 0, none⟩) ps.length c0) (ps.set m ⟨(rd_T88 ps m).f0, ⟨v0, v1, v2, v3, v4⟩, (rd_T88 ps m).f2⟩) := by rw [e9]; exact hr9
      have hk9 : KT [78, 88] w5 W9 := KT.grown hg9 (fun k hk => by injection hk with hk; subst hk; exact ⟨pcs, _, blk_below PC.out HQ.out, by simp⟩)
      have hT9 := (HPUT.out W9 (Nat.le_trans HQ.out.size hg9.size) (fun k hk hn => (hg9.block k (Nat.lt_of_lt_of_le hk HQ.out.size) (fun e => hn (by injection e with e; subst e; exact OK.out))).trans (HQ.out.block k hk)) _ _ (Kd.R_mono hr9 (fun k hk => .inl hk))).1 rfl
      have HS9 := Aside0.mk (HS5.out.tabs hk9 (HS5.out.B.grown hg9 HS5.out.le (fun k hk => by injection hk with hk; subst hk; exact hgb)) hT9)
      have HK9 := Aside0.mk ((KT.below (L := stI) HW5.out).trans (hk9.mono (by decide)))
      have BA9 := Aside0.mk (hk9.blk BA5.out (by decide))
      rw [← e9]
      clear e9 hg9 hr9 hk9 hT9 HV1 HV2 HP pf5 pf6 pf7 pf8 pf9 pz5 pz6 pz7 pz8 pz9 s6 s7 s8 s9 s10 xz0 xz1 xz2 xz3 xz4 xz5 xz6 xz7 xz8 xz9 xz10 xz11 xz12 xz13 az0 az1 az2 az3 az4 az5 az6 az7 az8 az9 az10 az11 af0 af1 af2 af3 af4 af5 af6 af7 af8 af9 af10 af11 kz0 kz1 kz2 kz3 kz4 kz5 yx0 yx1 yf0 yf1 lt8 lt9 lt10
      obtain ⟨⟨az0, az1, az2, az3, az4, az5, az6, az7, az8, az9, az10, az11⟩, af0, af1, af2, af3, af4, af5, af6, af7, af8, af9, af10, af11⟩ := c12 BA9.out
      have lt11 := blk_lt BA9.out
      go_wp2
      exact bodyPost_ret (ret60 rfl rfl (set12 BA9.out)) rfl (doneI HS9.out HK9.out BA9.out (by omega) (by omega) (codeA 0))
end Go.Proofs.YtclploookcjcbaaDoor.PIde
namespace Go.Proofs.YtclploookcjcbaaDoor.PIde
open Go.RowKit Go.Proofs.YtclploookcjcbaaDoorW.PrintWords Go.Proofs.YtclploookcjcbaaDoorW.PrintLast Go.Proofs.YtclploookcjcbaaDoorW.PrintMore
set_option linter.unusedVariables false
set_option linter.unusedSimpArgs false
theorem rd_all {Q : S78 → Prop} {ts : List S78} (h : ∀ T ∈ ts, Q T) (t : Int) (h0 : 0 ≤ t) (h1 : t < ts.length) : Q (rd_T78 ts t) := by
  have hl : t.toNat < ts.length := by omega
  have : rd_T78 ts t = ts[t.toNat] := by simp [rd_T78, List.getD_eq_getElem?_getD, hl]
  rw [this]
  exact h _ (List.getElem_mem hl)
theorem doI_calls (w0 w : World) (base gP gS : Nat) (av tv sv : Value) (ts : List S78) (ss : List ByteArray) (x : S31) (hs : ISt w0 w base gP gS av tv sv ts ss) (hts : ts.length ≤ 100) (hss : ss.length ≤ 50) (hT : ∀ T ∈ ts, TOk T) (hI : ∀ T ∈ ts, ∀ m : Int, 0 ≤ idxK ⟨2, m, 0, ⟨#[]⟩, 0⟩ T.f0 ↔ hasI T.f0 m = true) :
    Calls Tryd.prog 26 #[.pointer (some ⟨gP, 0, none⟩), .agg (ac x).toArray, .pointer (some ⟨gS, 0, none⟩)] w (DoneI w0 w base gP gS av (stepM idxK ts ss x)) := by
  cases hok : aB x
  · rw [show stepM idxK ts ss x = (codeA 1, ts, ss) from if_pos hok]
    exact doI_bad1 w0 w base gP gS av tv sv ts ss x hs hok
  obtain ⟨h1, h2, h3, h0⟩ := aB_parts hok
  have hok' : ¬ aB x = false := by rw [hok]; simp
  by_cases c2 : (x.f0 ≠ 1 ∧ x.f0 ≠ 7) ∧ (ts.length : Int) ≤ x.f1
  · rw [show stepM idxK ts ss x = (codeA 2, ts, ss) from (if_neg hok').trans (if_pos c2)]
    exact doI_bad2 w0 w base gP gS av tv sv ts ss x hs hok h0 c2.1 c2.2
  by_cases c3 : (x.f0 = 8 ∨ x.f0 = 9) ∧ (ss.length : Int) ≤ x.f2
  · rw [show stepM idxK ts ss x = (codeA 3, ts, ss) from (if_neg hok').trans ((if_neg c2).trans (if_pos c3))]
    exact doI_bad3 w0 w base gP gS av tv sv ts ss x hs hok c3.1 (by omega) c3.2
  by_cases c4 : (x.f0 = 2 ∨ x.f0 = 3) ∧ ¬ keyC x.f4 = 0
  · rw [show stepM idxK ts ss x = (codeA 4, ts, ss) from (if_neg hok').trans ((if_neg c2).trans ((if_neg c3).trans (if_pos c4)))]
    rcases c4.1 with hn | hn
    · exact doI_bad4_2 w0 w base gP gS av tv sv ts ss x hs hn hok (by omega) c4.2
    · exact doI_bad4_3 w0 w base gP gS av tv sv ts ss x hs hn hok (by omega) c4.2
  rw [show stepM idxK ts ss x = _ from (if_neg hok').trans ((if_neg c2).trans ((if_neg c3).trans (if_neg c4)))]
  rcases h0 with hn | hn | hn | hn | hn | hn | hn | hn | hn
  · rw [if_pos hn]
    split
    · exact doI_newfull w0 w base gP gS av tv sv ts ss x hs hn hok (by assumption)
    · exact doI_new w0 w base gP gS av tv sv ts ss x hs hn hok (by omega)
  · have hl : x.f1 < (ts.length : Int) := by omega
    obtain ⟨t1, t2, t3⟩ := rd_ok hT x.f1 h1 hl
    rw [if_neg (by omega), if_neg (by omega), if_pos (by omega), show keyM ss x = keyV x.f4 from if_neg (by omega)]
    exact doI_put w0 w base gP gS av tv sv ts ss x hs hn hok h1 hl (by have : ¬ ¬ keyC x.f4 = 0 := fun h => c4 ⟨.inl hn, h⟩; omega) t1 t2 t3
  · have hl : x.f1 < (ts.length : Int) := by omega
    rw [if_neg (by omega), if_neg (by omega), if_neg (by omega), if_pos (by omega), show keyM ss x = keyV x.f4 from if_neg (by omega)]
    exact doI_get w0 w base gP gS av tv sv ts ss x hs hn hok h1 hl (by have : ¬ ¬ keyC x.f4 = 0 := fun h => c4 ⟨.inr hn, h⟩; omega)
  · rw [if_neg (by omega), if_neg (by omega), if_neg (by omega), if_neg (by omega)]
    exact doI_after w0 w base gP gS av tv sv ts ss x hs hn hok h1 (by omega)
  · have hl : x.f1 < (ts.length : Int) := by omega
    rw [if_neg (by omega), if_neg (by omega), if_neg (by omega), if_neg (by omega)]
    exact doI_len w0 w base gP gS av tv sv ts ss x hs hn hok h1 hl (by have := (rd_ok hT x.f1 h1 hl).1; omega) (rd_all hI x.f1 h1 hl)
  · rw [if_neg (by omega), if_neg (by omega), if_neg (by omega), if_neg (by omega)]
    exact doI_count w0 w base gP gS av tv sv ts ss x hs hn hok h1 (by omega)
  · rw [if_neg (by omega), if_pos hn]
    split
    · exact doI_sitefull w0 w base gP gS av tv sv ts ss x hs hn hok (by assumption)
    · exact doI_site w0 w base gP gS av tv sv ts ss x hs hn hok (by omega)
  · have hl : x.f1 < (ts.length : Int) := by omega
    rw [if_neg (by omega), if_neg (by omega), if_neg (by omega), if_pos (by omega), show keyM ss x = strK (rdOf ByteArray.empty ss x.f2) from if_pos (.inl hn)]
    exact doI_field w0 w base gP gS av tv sv ts ss x hs hn hok h1 hl h2 (by omega)
  · have hl : x.f1 < (ts.length : Int) := by omega
    obtain ⟨t1, t2, t3⟩ := rd_ok hT x.f1 h1 hl
    rw [if_neg (by omega), if_neg (by omega), if_pos (by omega), show keyM ss x = strK (rdOf ByteArray.empty ss x.f2) from if_pos (.inr hn)]
    exact doI_setfield w0 w base gP gS av tv sv ts ss x hs hn hok h1 hl h2 (by omega) t1 t2 t3
end Go.Proofs.YtclploookcjcbaaDoor.PIde
namespace Go.Proofs.YtclploookcjcbaaDoorW.FltL
open Go Go.RowKit Go.Proofs.YtclploookcjcbaaDoorW.PrintWords Ieee
theorem word_parts (a : Nat) (ha : a < 18446744073709551616) : a = (if (a / 9223372036854775808 % 2 == 1) = true then 9223372036854775808 else 0) + a % 9223372036854775808 := by
  split
  · rename_i h; simp only [beq_iff_eq] at h; omega
  · rename_i h; simp only [beq_iff_eq] at h; omega
/-- What a word says of itself, its rung r. -/
theorem word_number {a : Nat} (ha : a < 18446744073709551616) {s : Bool} {m : Nat} {e : Int} (h : Ieee.double.read a = .number s m e) :
    ∃ r, a = (if s = true then 9223372036854775808 else 0) + r ∧ ((r < 4503599627370496 ∧ m = r ∧ e = -1074) ∨ (4503599627370496 ≤ r ∧ m = 4503599627370496 + r % 4503599627370496 ∧ e = -1074 + ((r / 4503599627370496 - 1 : Nat) : Int))) := by
  have hlp : Ieee.double.leastPlace = -1074 := by decide
  have hb : Ieee.double.binade = 4503599627370496 := by decide
  have hw : Ieee.double.signWeight = 9223372036854775808 := by decide
  have hp := word_parts a ha
  unfold Format.read at h
  rw [hlp, hb, hw] at h
  dsimp only at h
  split at h
  · cases h
    exact ⟨a % 9223372036854775808, hp, .inl ⟨by assumption, rfl, rfl⟩⟩
  · split at h
    · cases h
      exact ⟨a % 9223372036854775808, hp, .inr ⟨by omega, rfl, rfl⟩⟩
    · split at h <;> cases h
theorem word_inf {a : Nat} (ha : a < 18446744073709551616) {s : Bool} (h : Ieee.double.read a = .infinity s) : a = (if s = true then 9223372036854775808 else 0) + 9218868437227405312 := by
  have hb : Ieee.double.infRung = 9218868437227405312 := by decide
  have hw : Ieee.double.signWeight = 9223372036854775808 := by decide
  have hp := word_parts a ha
  unfold Format.read at h
  rw [hb, hw] at h
  dsimp only at h
  split at h
  · cases h
  · split at h
    · cases h
    · split at h
      · rename_i h3
        cases h
        rw [h3] at hp
        exact hp
      · cases h
theorem mant_eq {m n : Nat} {x y : Nat} (hm : m < 9007199254740992) (hn : n < 9007199254740992) (h1 : 0 < x → 4503599627370496 ≤ m) (h2 : 0 < y → 4503599627370496 ≤ n) (h0 : 0 < m) (h : m * 2 ^ x = n * 2 ^ y) : m = n ∧ x = y := by
  rcases Nat.lt_trichotomy x y with hl | rfl | hl
  · exfalso
    have e : m = n * 2 ^ (y - x) := by
      apply pow_cancel m (n * 2 ^ (y - x)) x
      rw [h, Nat.mul_assoc, ← Nat.pow_add]
      congr 2; omega
    have hp : 2 ^ 1 ≤ 2 ^ (y - x) := Nat.pow_le_pow_right (by omega) (by omega)
    have := h2 (by omega)
    have : n * 2 ≤ n * 2 ^ (y - x) := Nat.mul_le_mul_left _ hp
    omega
  · exact ⟨pow_cancel _ _ _ h, rfl⟩
  · exfalso
    have e : n = m * 2 ^ (x - y) := by
      apply pow_cancel n (m * 2 ^ (x - y)) y
      rw [← h, Nat.mul_assoc, ← Nat.pow_add]
      congr 2; omega
    have hp : 2 ^ 1 ≤ 2 ^ (x - y) := Nat.pow_le_pow_right (by omega) (by omega)
    have := h1 (by omega)
    have : m * 2 ≤ m * 2 ^ (x - y) := Nat.mul_le_mul_left _ hp
    omega
theorem feq_inj {a b : Nat} (ha : a < 18446744073709551616) (hb : b < 18446744073709551616) (h : feq a b = true) (hz : feq a 0 = false) : a = b := by
  have e0 : feq a b = ((Ieee.double.read a).order (Ieee.double.read b) == some .eq) := rfl
  cases e : Ieee.double.read a with
  | nan s t => rw [e0, e] at h; cases h
  | infinity s =>
    cases e' : Ieee.double.read b with
    | nan s t => rw [e0, e, e'] at h; cases s <;> cases h
    | number t n j => rw [e0, e, e'] at h; cases s <;> cases h
    | infinity t =>
      rw [e0, e, e'] at h
      have : s = t := by cases s <;> cases t <;> first | rfl | cases h
      subst this
      rw [word_inf ha e, word_inf hb e']
  | number s m x =>
    cases e' : Ieee.double.read b with
    | nan t u => rw [e0, e, e'] at h; cases h
    | infinity t => rw [e0, e, e'] at h; cases t <;> cases h
    | number t n j =>
      obtain ⟨hm, hx⟩ := read_number a e
      obtain ⟨hn, hj⟩ := read_number b e'
      rw [feq_V 1100 (by omega) e e' hx hj] at h
      rw [feq_V 1100 (by omega) e word_zero hx (by omega)] at hz
      have hV := of_decide_eq_true h
      have hZ := of_decide_eq_false hz
      have hz0 : V 1100 false 0 (-1074) = 0 := by simp [V]
      rw [hz0] at hZ
      obtain ⟨r, ar, hr⟩ := word_number ha e
      obtain ⟨q, bq, hq⟩ := word_number hb e'
      have hm0 : 0 < m := by
        rcases Nat.eq_zero_or_pos m with h0 | h0
        · exact absurd (by rw [h0]; simp [V]) hZ
        · exact h0
      have hn0 : 0 < n := by
        rcases Nat.eq_zero_or_pos n with h0 | h0
        · rw [h0] at hV
          exact absurd (by rw [hV]; simp [V]) hZ
        · exact h0
      have pm : 0 < m * 2 ^ (x + (1100 : Nat)).toNat := Nat.mul_pos hm0 (Nat.two_pow_pos _)
      have pn : 0 < n * 2 ^ (j + (1100 : Nat)).toNat := Nat.mul_pos hn0 (Nat.two_pow_pos _)
      unfold V at hV
      have hs : s = t ∧ m * 2 ^ (x + (1100 : Nat)).toNat = n * 2 ^ (j + (1100 : Nat)).toNat := by
        cases s <;> cases t <;> simp only [Bool.false_eq_true, if_false, if_true] at hV <;> first | exact ⟨rfl, by omega⟩ | omega
      obtain ⟨rfl, hp⟩ := hs
      have hp2 : m * 2 ^ (x + 1074).toNat = n * 2 ^ (j + 1074).toNat := by
        apply pow_cancel _ _ 26
        rw [Nat.mul_assoc, Nat.mul_assoc, ← Nat.pow_add, ← Nat.pow_add, show (x + 1074).toNat + 26 = (x + (1100 : Nat)).toNat by omega, show (j + 1074).toNat + 26 = (j + (1100 : Nat)).toNat by omega]
        exact hp
      obtain ⟨h1, h2⟩ := mant_eq (by omega) (by omega) (by rcases hr with ⟨_, _, h⟩ | ⟨_, h, _⟩ <;> omega) (by rcases hq with ⟨_, _, h⟩ | ⟨_, h, _⟩ <;> omega) hm0 hp2
      have : r = q := by
        rcases hr with ⟨r1, r2, r3⟩ | ⟨r1, r2, r3⟩ <;> rcases hq with ⟨q1, q2, q3⟩ | ⟨q1, q2, q3⟩ <;> omega
      rw [ar, bq, this]
/-- A zero is one of two words. -/
theorem zero_word {a : Nat} (ha : a < 18446744073709551616) (h : feq a 0 = true) : a = 0 ∨ a = 9223372036854775808 := by
  obtain ⟨s, e, hr, _⟩ := feq_zero h
  obtain ⟨r, ar, hq⟩ := word_number ha hr
  have : r = 0 := by rcases hq with ⟨_, h, _⟩ | ⟨_, h, _⟩ <;> omega
  subst this
  cases s
  · left; simpa using ar
  · right; simpa using ar
end Go.Proofs.YtclploookcjcbaaDoorW.FltL
namespace Go.Proofs.YtclploookcjcbaaDoor.PIde
open Go.RowKit Go.Proofs.YtclploookcjcbaaDoorW.PrintWords Go.Proofs.YtclploookcjcbaaDoorW.FltL
set_option linter.unusedVariables false
set_option linter.unusedSimpArgs false
def W64 : Nat := 18446744073709551616
/-- A key as a play keeps it. -/
def KN (k : S29) : Prop := (k.f0 = 3 → feq k.f2 k.f2 = true ∧ feq k.f2 0 = false ∧ k.f2 < W64) ∧ (¬ k.f0 = 3 → feq k.f2 0 = true) ∧ (k.f0 = 2 → k.f3.toList = [] ∧ k.f4 = 0)
theorem zeros_eq {a b : Nat} (ha : feq a 0 = true) (hb : feq b 0 = true) : feq a b = true := by
  obtain ⟨s, e, hr, he⟩ := feq_zero ha
  obtain ⟨t, j, hq, hj⟩ := feq_zero hb
  rw [feq_V 1100 (by omega) hr hq he hj]
  simp [V]
theorem same_like {p k : S29} (hp : KN p) (hk : KN k) : sameB p k = likeB p k := by
  unfold sameB likeB
  cases h0 : (p.f0 == k.f0)
  · simp
  · have e0 : p.f0 = k.f0 := by simpa using h0
    by_cases h3 : p.f0 = 3
    · obtain ⟨p1, p2, p3⟩ := hp.1 h3
      obtain ⟨k1, k2, k3⟩ := hk.1 (e0 ▸ h3)
      have hs : sameFb p.f2 k.f2 = feq p.f2 k.f2 := by
        unfold sameFb
        rw [p1]
        by_cases he : p.f2 = k.f2
        · rw [he, k1]; simp
        · have h1 : feq p.f2 k.f2 = false := by
            cases h : feq p.f2 k.f2
            · rfl
            · exact absurd (feq_inj p3 k3 h p2) he
          rw [h1]
          simp [he, Int.ofNat_inj]
      rw [h3, hs]
      simp only [beq_self_eq_true, Bool.not_true, Bool.false_or, Bool.true_and]
      cases (p.f1 == k.f1) <;> cases feq p.f2 k.f2 <;> cases (p.f3.toList == k.f3.toList) <;> cases (p.f4 == k.f4) <;> rfl
    · have hz := zeros_eq (hp.2.1 h3) (hk.2.1 (e0 ▸ h3))
      rw [hz, show (p.f0 == 3) = false from beq_eq_false_iff_ne.mpr h3]
      simp
theorem KN_str (s : ByteArray) : KN (strK s) := ⟨(fun h => absurd h (show ¬ (4 : Int) = 3 by decide)), (fun _ => by show feq 0 0 = true; first | rfl | kernel_rfl), (fun h => absurd h (show ¬ (4 : Int) = 2 by decide))⟩
theorem zero_whole {v : S29} (h3 : v.f0 = 3) (hv : v.f2 < W64) (hz : feq v.f2 0 = true) : wholeB v = true := by
  unfold wholeB
  rw [h3]
  rcases zero_word hv hz with h | h <;> rw [h] <;> first | rfl | kernel_rfl
theorem KN_key {v : S29} (hv : v.f2 < W64) : KN (keyV v) := by
  unfold keyV
  split
  · rename_i hc
    split
    · exact ⟨(fun h => absurd h (show ¬ (2 : Int) = 3 by decide)), (fun _ => by show feq 0 0 = true; first | rfl | kernel_rfl), (fun _ => ⟨by first | rfl | simp, rfl⟩)⟩
    · rename_i hw
      have hb : vB v = true := by
        cases h : vB v
        · unfold keyC at hc; rw [if_pos h] at hc; cases hc
        · rfl
      refine ⟨fun h3 => ⟨?_, ?_, hv⟩, fun h3 => ?_, fun h2 => ?_⟩
      · cases h : feq v.f2 v.f2
        · unfold keyC at hc
          rw [if_neg (by rw [hb]; simp), if_neg (by rw [h3]; simp), if_pos (by rw [h3]; rfl), if_pos h] at hc
          cases hc
        · rfl
      · cases h : feq v.f2 0
        · rfl
        · exact absurd (zero_whole h3 hv h) hw
      · unfold vB zB at hb
        cases h : feq v.f2 0
        · rw [h] at hb
          rw [if_neg h3] at hb
          simp at hb
        · rfl
      · unfold vB zB at hb
        rw [if_neg (by omega), if_neg (by omega), if_pos h2] at hb
        simp at hb
        exact ⟨by simpa using hb.2.1, hb.2.2⟩
  · exact ⟨(fun h => absurd h (show ¬ (0 : Int) = 3 by decide)), (fun _ => by show feq 0 0 = true; first | rfl | kernel_rfl), (fun h => absurd h (show ¬ (0 : Int) = 2 by decide))⟩
theorem idx_eq {k : S29} (hk : KN k) : ∀ ps : List S88, (∀ p ∈ ps, KN p.f0) → idxK k ps = idxL k ps
  | [], _ => rfl
  | p :: ps, h => by
    unfold idxK idxL
    rw [same_like (h p (by simp)) hk, idx_eq hk ps (fun q hq => h q (by simp [hq]))]
theorem same_int {p : S29} (hp : KN p) (m : Int) : sameB p ⟨2, m, 0, ⟨#[]⟩, 0⟩ = (p.f0 == 2 && p.f1 == m) := by
  unfold sameB
  cases h0 : (p.f0 == 2)
  · simp
  · have h2 : p.f0 = 2 := by simpa using h0
    obtain ⟨h3, h4⟩ := hp.2.2 h2
    rw [h2, h3, h4]
    have : (⟨#[]⟩ : ByteArray).toList = [] := by first | rfl | simp
    simp [this]
theorem idx_has (m : Int) : ∀ ps : List S88, (∀ p ∈ ps, KN p.f0) → (0 ≤ idxK ⟨2, m, 0, ⟨#[]⟩, 0⟩ ps ↔ hasI ps m = true)
  | [], _ => by simp [idxK, hasI]
  | p :: ps, h => by
    have ih := idx_has m ps (fun q hq => h q (by simp [hq]))
    have hr := idxK_range ⟨2, m, 0, ⟨#[]⟩, 0⟩ ps
    unfold idxK hasI
    rw [same_int (h p (by simp)) m, List.any_cons]
    cases hq : (p.f0.f0 == 2 && p.f0.f1 == m)
    · simp only [Bool.false_eq_true, if_false, Bool.false_or]
      rw [← show hasI ps m = ps.any (fun p => p.f0.f0 == 2 && p.f0.f1 == m) from rfl, ← ih]
      split <;> omega
    · simp
/-- All keys are normal. -/
def TK (ts : List S78) : Prop := ∀ T ∈ ts, ∀ p ∈ T.f0, KN p.f0
theorem TK_rd {ts : List S78} (h : TK ts) (t : Int) : ∀ p ∈ (rd_T78 ts t).f0, KN p.f0 := by
  unfold rd_T78
  by_cases hl : t.toNat < ts.length
  · rw [List.getD_eq_getElem?_getD, List.getElem?_eq_getElem hl]
    exact h _ (List.getElem_mem hl)
  · rw [List.getD_eq_getElem?_getD, List.getElem?_eq_none (by omega)]
    intro p hp
    cases hp
theorem putA_TK {T : S78} (h : ∀ p ∈ T.f0, KN p.f0) (i : Int) {k : S29} (hk : KN k) (v : S29) : ∀ p ∈ (putA T i k v).2.f0, KN p.f0 := by
  unfold putA
  split
  · split
    · intro p hp
      exact h p (List.mem_of_mem_eraseIdx hp)
    · intro p hp
      by_cases hl : i.toNat < T.f0.length
      · rcases List.mem_or_eq_of_mem_set hp with hp | rfl
        · exact h p hp
        · show KN (rd_T88 T.f0 i).f0
          unfold rd_T88
          rw [List.getD_eq_getElem?_getD, List.getElem?_eq_getElem hl]
          exact h _ (List.getElem_mem hl)
      · rw [List.set_eq_of_length_le (by omega)] at hp
        exact h p hp
  · split
    · exact h
    · split
      · exact h
      · intro p hp
        rcases List.mem_append.1 hp with hp | hp
        · exact h p hp
        · rw [List.mem_singleton.1 hp]; exact hk
theorem KN_keyM (ss : List ByteArray) {x : S31} (hx : x.f4.f2 < W64) : KN (keyM ss x) := by
  unfold keyM
  split
  · exact KN_str _
  · exact KN_key hx
theorem step_eq {ts : List S78} (h : TK ts) (ss : List ByteArray) {x : S31} (hx : x.f4.f2 < W64) : stepM idxK ts ss x = stepM idxL ts ss x := by
  unfold stepM
  rw [idx_eq (KN_keyM ss hx) _ (TK_rd h x.f1)]
theorem step_TK {ts : List S78} (h : TK ts) (ss : List ByteArray) {x : S31} (hx : x.f4.f2 < W64) : TK (stepM idxL ts ss x).2.1 := by
  unfold stepM
  split
  · exact h
  split
  · exact h
  split
  · exact h
  split
  · exact h
  split
  · split
    · exact h
    · intro T hT
      rcases List.mem_append.1 hT with hT | hT
      · exact h T hT
      · rw [List.mem_singleton.1 hT]; intro p hp; cases hp
  split
  · split <;> exact h
  split
  · intro T hT
    rcases List.mem_or_eq_of_mem_set hT with hT | rfl
    · exact h T hT
    · exact putA_TK (TK_rd h x.f1) _ (KN_keyM ss hx) _
  split <;> exact h
/-- Both plays are one. -/
theorem play_eq (acts : List S31) (hx : ∀ x ∈ acts, x.f4.f2 < W64) : ∀ i : Nat, i ≤ acts.length → playM idxK (acts.take i) = playM idxL (acts.take i) ∧ TK (playM idxL (acts.take i)).2.1
  | 0, _ => ⟨by simp [playM], by simp [playM, TK]⟩
  | i + 1, hi => by
    obtain ⟨h1, h2⟩ := play_eq acts hx i (by omega)
    have hm : (acts.getD i z31).f4.f2 < W64 := by
      rw [List.getD_eq_getElem?_getD, List.getElem?_eq_getElem (by omega)]
      exact hx _ (List.getElem_mem (by omega))
    rw [playM_snoc idxK acts i (by omega), playM_snoc idxL acts i (by omega), h1]
    unfold playS
    rw [step_eq h2 _ hm]
    exact ⟨rfl, step_TK h2 _ hm⟩
theorem ideal_eq (acts : List S31) (hx : ∀ x ∈ acts, x.f4.f2 < W64) : idealM idxK acts = idealM idxL acts := by
  have := (play_eq acts hx acts.length (Nat.le_refl _)).1
  rw [List.take_length] at this
  unfold idealM
  rw [this]
end Go.Proofs.YtclploookcjcbaaDoor.PIde
namespace Go.Proofs.YtclploookcjcbaaDoor.PIde
open Go.RowKit Go.Proofs.YtclploookcjcbaaDoorW.PrintWords Go.Proofs.YtclploookcjcbaaDoorW.PrintLast Go.Proofs.YtclploookcjcbaaDoorW.PrintMore
attribute [local go_sem] max2_int min2_int max_two min_two max_three min_three max_four min_four   -- for this text's walks alone
set_option linter.unusedVariables false
set_option linter.unusedSimpArgs false
theorem ISt.ansrow {w0 w w1 : World} {base gP gS : Nat} {av av2 tv sv : Value} {ts : List S78} {ss : List ByteArray} (h : ISt w0 w base gP gS av tv sv ts ss) (hk : KT [60] w w1) (hB : Below base w0 w1) : ISt w0 (w1.setCell ⟨gP, 1, none⟩ av2) base gP gS av2 tv sv ts ss := by
  have h2 := h.kt hk hB (by decide) (by decide) (by decide) (by decide)
  have k2 : KT [39] w1 (w1.setCell ⟨gP, 1, none⟩ av2) := KT.set h2.P (by simp) _
  exact ⟨hB.setCell h.gp _, by have := h2.le; simpa using this, (blk_set h2.P 1 av2).trans (by simp), k2.blk h2.Q (by decide), h.gp, h.gs, S_KT h2.T k2 (by decide), R_KT h2.S k2 (by decide), h.L, h.b0⟩
set_option maxHeartbeats 4000000 in
set_option maxRecDepth 100000 in
theorem runI_long (acts : List S31) (hl : 1000 < acts.length) (A : Option Addr) (c : Nat) (w : World) :
    Calls Tryd.prog 12 #[.slice A acts.length c] w (IdealOut w z39) := by
  have hl1 : decide ((1000 : Int) < (acts.length : Int)) = true := decide_eq_true (by omega)
  have hl2 : decide (1000 < acts.length) = true := decide_eq_true hl
  clear hl
  have hu := Tryd.underlying31
  have hu2 := Tryd.underlying39
  have hu3 := Tryd.underlying58
  have hu4 := Tryd.underlying60
  have hu5 := Tryd.underlying41
  go_enter Tryd.func12, Tryd.ntmps12
  go_wp2
  exact bodyPost_ret (ret39 rfl rfl (heap_alloc_new w _)) rfl ⟨.slice none 0 0, .slice none 0 0, rfl, Kd.R_nil _ _ _ _ _, Kd.S_nil _ _ _ _ _, below_alloc (Below.refl _ _) _⟩
set_option maxHeartbeats 16000000 in
set_option maxRecDepth 100000 in
theorem runI_short (acts : List S31) (hl : acts.length ≤ 1000) (hx : ∀ x ∈ acts, x.f4.f2 < W64) (A : Option Addr) (c : Nat) (w : World) (hL : Lies w) (hr : Kd.C k31 w A acts.length acts) :
    Calls Tryd.prog 12 #[.slice A acts.length c] w (IdealOut w ⟨true, (playM idxL acts).1, (playM idxL acts).2.1⟩) := by
  have HR := Aside0.mk hr
  have H5 := Aside0.mk hl
  have HX := Aside0.mk hx
  have HLI := Aside0.mk hL
  have hl1 : decide ((1000 : Int) < (acts.length : Int)) = false := decide_eq_false (by omega)
  have hl2 : decide (1000 < acts.length) = false := decide_eq_false (by omega)
  have HB := Aside0.mk (below_alloc (below_alloc (below_alloc (Below.refl w.heap.size w) (.cells #[.bool false, .slice none 0 0, .slice none 0 0] 39)) (.cells #[.bool true, .slice none 0 0, .slice none 0 0] 39)) (.cells #[.slice none 0 0] 56))
  have BR := Aside0.mk (blk_alloc (blk_alloc (heap_alloc_new w (.cells #[.bool false, .slice none 0 0, .slice none 0 0] 39)) (.cells #[.bool true, .slice none 0 0, .slice none 0 0] 39)) (.cells #[.slice none 0 0] 56))
  have BP := Aside0.mk (blk_alloc (heap_alloc2_new w (.cells #[.bool false, .slice none 0 0, .slice none 0 0] 39) (.cells #[.bool true, .slice none 0 0, .slice none 0 0] 39)) (.cells #[.slice none 0 0] 56))
  have BQ := Aside0.mk (show (((w.alloc (.cells #[.bool false, .slice none 0 0, .slice none 0 0] 39)).alloc (.cells #[.bool true, .slice none 0 0, .slice none 0 0] 39)).alloc (.cells #[.slice none 0 0] 56)).heap[w.heap.size + 2]? = some (.cells #[.slice none 0 0] 56 (0, 0)) by simpa using heap_alloc_new ((w.alloc (.cells #[.bool false, .slice none 0 0, .slice none 0 0] 39)).alloc (.cells #[.bool true, .slice none 0 0, .slice none 0 0] 39)) (.cells #[.slice none 0 0] 56))
  obtain ⟨wa, ewa⟩ : ∃ wa, wa = w.alloc (.cells #[.bool false, .slice none 0 0, .slice none 0 0] 39) := ⟨_, rfl⟩
  have hwa : wa.heap.size = w.heap.size + 1 := by rw [ewa]; simp
  have HBA := Aside0.mk (show Below w.heap.size w wa by rw [ewa]; exact below_alloc (Below.refl _ _) _)
  have BRA := Aside0.mk (show wa.heap[w.heap.size]? = some (.cells #[.bool false, .slice none 0 0, .slice none 0 0] 39 (0, 0)) by rw [ewa]; exact heap_alloc_new w _)
  have HLA := Aside0.mk (HLI.out.below HBA.out)
  have HRA := Aside0.mk (fun wr (hb : Below (w.heap.size + 1) wa wr) => Kd.C_below (Kd.C_below hr HBA.out) (show Below wa.heap.size wa wr by rw [hwa]; exact hb))
  have HBS := Aside0.mk (show Below (w.heap.size + 1) wa (((w.alloc (.cells #[.bool false, .slice none 0 0, .slice none 0 0] 39)).alloc (.cells #[.bool true, .slice none 0 0, .slice none 0 0] 39)).alloc (.cells #[.slice none 0 0] 56)) by rw [← ewa, ← hwa]; exact below_alloc (below_alloc (Below.refl _ _) _) _)
  clear hr hl hx hL hwa ewa
  have hu := Tryd.underlying31
  have hu2 := Tryd.underlying39
  have hu3 := Tryd.underlying58
  have hu4 := Tryd.underlying60
  have hu5 := Tryd.underlying41
  have hu6 := Tryd.underlying56
  go_enter Tryd.func12, Tryd.ntmps12
  go_wp2
  go_loopg [14] acts.length (fun d v14 wr => ∃ (i : Nat) (av tv sv : Value), v14 = .int .i64 (i : Int) ∧ Aside0 (i + d = acts.length) ∧ Aside0 (ISt wa wr (w.heap.size + 1) (w.heap.size + 1) (w.heap.size + 2) av tv sv (playM idxL (acts.take i)).2.1 (playM idxL (acts.take i)).2.2) ∧ Aside0 (k60.R 60 wr (w.heap.size + 1) tt av (playM idxL (acts.take i)).1))
  case atStart =>
    exact ⟨0, .slice none 0 0, .slice none 0 0, .slice none 0 0, rfl, ⟨Nat.zero_add _⟩, ⟨⟨HBS.out, by simp, BP.out, BQ.out, Nat.le_refl _, Nat.le_add_right _ 1, Kd.S_nil _ _ _ _ _, Kd.R_nil _ _ _ _ _, HLA.out, Nat.succ_pos _⟩⟩, ⟨Kd.R_nil _ _ _ _ _⟩⟩
  case round =>
    clear HB BR BP BQ HBS
    obtain ⟨i, av, tv, sv, rfl, HD, HS, HA⟩ := hrel
    have BR := Aside0.mk ((HS.out.B.block w.heap.size (Nat.lt_succ_self _)).trans BRA.out)
    have hm := H5.out
    cases gk with
    | zero =>
      have c1 : decide ((i : Int) < (acts.length : Int)) = false := decide_eq_false (by have := HD.out; omega)
      have c1n : decide (i < acts.length) = false := decide_eq_false (by have := HD.out; omega)
      rw [List.take_of_length_le (by have := HD.out; omega)] at HS HA
      generalize playM idxL acts = st at *
      obtain ⟨an, ts, ss⟩ := st
      simp only [] at *
      obtain ⟨aA, ac', rfl⟩ := Kd.R_slice HA.out
      obtain ⟨tA, tc, rfl⟩ := Kd.S_slice HS.out.T
      have lt2 := blk_lt HS.out.P
      have lt3 := blk_lt BR.out
      obtain ⟨⟨oz0, oz1, oz2⟩, of0, of1, of2⟩ := c3 HS.out.P
      obtain ⟨⟨rz0, rz1, rz2⟩, rf0, rf1, rf2⟩ := c3 BR.out
      clear hm
      go_wp2
      have hk2 : KT [39] wr (wr.setCells w.heap.size 0 [.bool true, .slice aA an.length ac', .slice tA ts.length tc]) := KT.sets BR.out (by simp) _
      exact bodyPost_ret (ret39 rfl rfl (set3 BR.out)) rfl ⟨.slice aA an.length ac', .slice tA ts.length tc, rfl, R_KT (Kd.R_lower HA.out (Nat.le_succ _)) hk2 (by decide), S_KT (Kd.S_lower HS.out.T (Nat.le_succ _)) hk2 (by decide), (((HBA.out.trans (HS.out.B.mono (Nat.le_succ _))).setCell (Nat.le_refl _) _).setCell (Nat.le_refl _) _).setCell (Nat.le_refl _) _⟩
    | succ d =>
      have hi : i < acts.length := by have := HD.out; omega
      have c1 : decide ((i : Int) < (acts.length : Int)) = true := decide_eq_true (by omega)
      have c1n : decide (i < acts.length) = true := decide_eq_true hi
      have c2 : decide (0 ≤ (i : Int)) = true := decide_eq_true (by omega)
      obtain ⟨ad, e1, hx0, hx1, hx2, hx3, hx4, hx5, hx6, hx7, hx8, hx9, hx10, hx11, hx12, hx13⟩ := at_T31 (HRA.out wr HS.out.B) (i : Int) (by omega) (by omega)
      cases e1
      simp only [Int.toNat_natCast] at hx0 hx1 hx2 hx3 hx4 hx5 hx6 hx7 hx8 hx9 hx10 hx11 hx12 hx13
      have q1 : 0 ≤ (i : Int) := by omega
      have q2 : (i : Int) < (acts.length : Int) := by omega
      have q3 : IntKind.i64.wrap ((i : Int) + 1) = ((i + 1 : Nat) : Int) := by rw [IntWalk.i64_in _ ⟨by omega, by omega⟩]; omega
      have HPL := playM_snoc idxL acts i hi
      rw [show acts.getD i z31 = (rd_T31 acts (i : Int)) by simp [rd_T31]] at HPL
      obtain ⟨⟨ok1, ok2, ok3⟩, ok4⟩ := playM_ok idxL acts i (by omega)
      obtain ⟨-, okK⟩ := play_eq acts HX.out i (by omega)
      have hxi : (rd_T31 acts (i : Int)).f4.f2 < W64 := by
        rw [show (rd_T31 acts (i : Int)) = acts[i] by simp [rd_T31, hi]]
        exact HX.out _ (List.getElem_mem hi)
      have HPL := Aside0.mk HPL
      generalize playM idxL (acts.take i) = st at *
      obtain ⟨an, ts, ss⟩ := st
      simp only [] at ok1 ok2 ok3 ok4 okK HS HA
      unfold playS at HPL
      simp only [] at HPL
      have HDo : Aside0 (∀ w1, ISt wa w1 (w.heap.size + 1) (w.heap.size + 1) (w.heap.size + 2) av tv sv ts ss → Calls Tryd.prog 26 #[.pointer (some ⟨w.heap.size + 1, 0, none⟩), .agg #[.int .i64 (rd_T31 acts (i : Int)).f0, .int .i64 (rd_T31 acts (i : Int)).f1, .int .i64 (rd_T31 acts (i : Int)).f2, .int .i64 (rd_T31 acts (i : Int)).f3, .int .i64 (rd_T31 acts (i : Int)).f4.f0, .int .i64 (rd_T31 acts (i : Int)).f4.f1, .float .f64 (rd_T31 acts (i : Int)).f4.f2, .string (rd_T31 acts (i : Int)).f4.f3, .int .i64 (rd_T31 acts (i : Int)).f4.f4, .int .i64 (rd_T31 acts (i : Int)).f5.f0, .int .i64 (rd_T31 acts (i : Int)).f5.f1, .float .f64 (rd_T31 acts (i : Int)).f5.f2, .string (rd_T31 acts (i : Int)).f5.f3, .int .i64 (rd_T31 acts (i : Int)).f5.f4], .pointer (some ⟨w.heap.size + 2, 0, none⟩)] w1 (DoneI wa w1 (w.heap.size + 1) (w.heap.size + 1) (w.heap.size + 2) av (stepM idxL ts ss (rd_T31 acts (i : Int))))) := ⟨fun w1 hs1 => by
        have := doI_calls wa w1 (w.heap.size + 1) (w.heap.size + 1) (w.heap.size + 2) av tv sv ts ss (rd_T31 acts (i : Int)) hs1 ok1 ok2 ok3 (fun T hT m => idx_has m T.f0 (okK T hT))
        rw [step_eq okK ss hxi] at this
        exact this⟩
      have HAL : Aside0 (an.length ≤ 1000) := ⟨by omega⟩
      generalize stepM idxL ts ss (rd_T31 acts (i : Int)) = R at *
      obtain ⟨⟨a0, a1, ⟨a2, a3, a4, a5, a6⟩, ⟨a7, a8, a9, a10, a11⟩⟩, rts, rss⟩ := R
      obtain ⟨aA, ac', rfl⟩ := Kd.R_slice HA.out
      obtain ⟨⟨oz0, oz1, oz2⟩, of0, of1, of2⟩ := c3 HS.out.P
      have lt1 := blk_lt HS.out.Q
      have lt2 := blk_lt HS.out.P
      have lt3 := blk_lt BR.out
      clear hm hi ok1 ok2 ok3 ok4 okK hxi
      go_wp2
      go_region_law (first | (refine Kd.R_append_step k60 (w0 := wa) (w.heap.size + 1) (by rfl) (.tmp 19) (.tmp 22) 36 60 (.agg #[.int .i64 0, .int .i64 0, .int .i64 0, .int .i64 0, .float .f64 0, .string ⟨#[]⟩, .int .i64 0, .int .i64 0, .int .i64 0, .float .f64 0, .string ⟨#[]⟩, .int .i64 0]) 112 (by rfl) Tryd.underlying36 info60t (by rfl) (by decide) (by decide) (.slice aA an.length ac') an ⟨a0, a1, ⟨a2, a3, a4, a5, a6⟩, ⟨a7, a8, a9, a10, a11⟩⟩ [.int .i64 a0, .int .i64 a1, .int .i64 a2, .int .i64 a3, .float .f64 a4, .string a5, .int .i64 a6, .int .i64 a7, .int .i64 a8, .float .f64 a9, .string a10, .int .i64 a11] tt (fun _ => False) (by first | rfl | simp [Act.eval, Act.put]) (by first | rfl | simp [Act.eval, Act.put]) (k60_mkM _ _ _ ⟨a0, a1, ⟨a2, a3, a4, a5, a6⟩, ⟨a7, a8, a9, a10, a11⟩⟩) (fun _ hk => hk.elim) (fun _ _ => trivial) HA1.out HS1.out.B HS1.out.le (by have := HAL.out; omega) ?_; intro av2 w2 hr2 hb2 hg2 _; obtain ⟨lA, lc, le⟩ := Kd.R_slice hr2; subst le; have hk2 : KT [60] w1 w2 := KT.grown hg2 (fun k hk => by obtain ⟨cs, hc⟩ := Kd.R_typed HA1.out k hk; exact ⟨cs, _, hc, by simp⟩); have HS2 := Aside0.mk (HS1.out.ansrow (av2 := .slice lA (an ++ [(⟨a0, a1, ⟨a2, a3, a4, a5, a6⟩, ⟨a7, a8, a9, a10, a11⟩⟩ : S60)]).length lc) hk2 hb2); have BP2 := Aside0.mk (hk2.blk HS1.out.P (by decide)); have HA2 := Aside0.mk hr2; clear hk2 hr2 hb2 hg2; obtain ⟨⟨pz0, pz1, pz2⟩, pf0, pf1, pf2⟩ := c3 BP2.out; have lt5 := blk_lt BP2.out) | (go_simp; go_at_call 26; refine (HDo.out _ ((HS.out.below (below_alloc (Below.refl _ _) _)).below (below_drew (Below.refl _ _)))).mono ?_; rintro e w1 ⟨tv1, sv1, rfl, hs1, hk1⟩; have HS1 := Aside0.mk hs1; have HA1 := Aside0.mk (R_KT (Kd.R_drew (Kd.R_alloc HA.out _)) hk1 (by decide)); obtain ⟨⟨pz0, pz1, pz2⟩, pf0, pf1, pf2⟩ := c3 HS1.out.P; have lt4 := blk_lt HS1.out.P; clear hs1 hk1; unfold anc vc; simp only [List.cons_append, List.nil_append]))
      all_goals
        go_wp2
        go_roundg d
        case measure => omega
        case rel =>
          refine ⟨i + 1, .slice lA (an ++ [(⟨a0, a1, ⟨a2, a3, a4, a5, a6⟩, ⟨a7, a8, a9, a10, a11⟩⟩ : S60)]).length lc, tv1, sv1, by first | rfl | (rw [q3]; done) | simp, ⟨by have := HD.out; omega⟩, ⟨?_⟩, ⟨?_⟩⟩
          · rw [HPL.out]; simpa using HS2.out
          · rw [HPL.out]; simpa using R_KT HA2.out (KT.set (j := 1) BP2.out (L := [39]) (by simp) (.slice lA (an ++ [(⟨a0, a1, ⟨a2, a3, a4, a5, a6⟩, ⟨a7, a8, a9, a10, a11⟩⟩ : S60)]).length lc)) (by decide)
theorem runI_calls (acts : List S31) (hx : ∀ x ∈ acts, x.f4.f2 < W64) (A : Option Addr) (c : Nat) (w : World) (hL : Lies w) (hr : Kd.C k31 w A acts.length acts) : Calls Tryd.prog 12 #[.slice A acts.length c] w (IdealOut w (idealM idxL acts)) := by
  unfold idealM
  split
  · exact runI_long acts (by assumption) A c w
  · exact runI_short acts (by omega) hx A c w hL hr
end Go.Proofs.YtclploookcjcbaaDoor.PIde
namespace Go.Proofs.YtclploookcjcbaaDoor.PIde
open Go.RowKit Go.Proofs.YtclploookcjcbaaDoorW.PrintWords Go.Proofs.YtclploookcjcbaaDoorW.PrintLast Go.Proofs.YtclploookcjcbaaDoorW.PrintMore
attribute [local go_sem] max2_int min2_int max_two min_two max_three min_three max_four min_four   -- for this text's walks alone
set_option linter.unusedVariables false
set_option linter.unusedSimpArgs false
theorem idealM_ok (acts : List S31) : (idealM idxL acts).f1.length ≤ 1000 ∧ (idealM idxL acts).f2.length ≤ 100 ∧ ∀ T ∈ (idealM idxL acts).f2, T.f0.length ≤ 500 := by
  unfold idealM
  split
  · exact ⟨by simp [z39], by simp [z39], by simp [z39]⟩
  · obtain ⟨⟨h1, -, h2⟩, h3⟩ := playM_ok idxL acts acts.length (Nat.le_refl _)
    rw [List.take_length] at h1 h2 h3
    exact ⟨by show (playM idxL acts).1.length ≤ _; omega, h1, fun T hT => (h2 T hT).1⟩
/-- An answer in a box: the box, the answers, the tables. -/
def Held (V : S39) (b base : Nat) (a t : Value) (W : World) : Prop :=
  W.heap[b]? = some (.cells #[.bool V.f0, a, t] 39 (0, 0)) ∧ Kd.R k60 60 W base tt a V.f1 ∧ Kd.S k78 78 W base tt t V.f2
theorem Held.kt {V : S39} {b base : Nat} {a t : Value} {W W' : World} (h : Held V b base a t W) (k : KT [31] W W') : Held V b base a t W' := ⟨k.blk h.1 (by decide), R_KT h.2.1 k (by decide), S_KT h.2.2 k (by decide)⟩
theorem Held.below {V : S39} {b base : Nat} {a t : Value} {W W' : World} (h : Held V b base a t W) (k : Below W.heap.size W W') : Held V b base a t W' := h.kt (KT.below k)
theorem Held.new {V : S39} {base : Nat} {a t : Value} {W : World} (ha : Kd.R k60 60 W base tt a V.f1) (ht : Kd.S k78 78 W base tt t V.f2) : Held V W.heap.size base a t (W.alloc (.cells #[.bool V.f0, a, t] 39)) :=
  ⟨heap_alloc_new _ _, Kd.R_below ha (below_alloc (Below.refl _ _) _), Kd.S_below ht (below_alloc (Below.refl _ _) _)⟩
theorem KT.after {L : List Nat} {w w1 w2 : World} (h : KT L w w1) (k : Below w.heap.size w1 w2) : KT L w w2 := ⟨Nat.le_trans h.1 k.size, fun i cs t hi ht => (k.block i (blk_lt hi)).trans (h.2 i cs t hi ht)⟩
set_option maxHeartbeats 16000000 in
set_option maxRecDepth 100000 in
theorem law_calls (xs : List S26) (A : Option Addr) (c : Nat) (w : World) (hC : Kd.C k26 w A xs.length xs) (hL : Lies w) (hx : ∀ x ∈ xs, x.f4.f2 < W64) :
    Calls Tryd.prog 4 #[.slice A xs.length c] w fun e w' => e = .returned (.bool true) ∧ Below w.heap.size w w' := by
  have hx' : ∀ y ∈ xs.map cx, y.f4.f2 < W64 := fun y hy => by
    obtain ⟨z, hz, rfl⟩ := List.mem_map.1 hy
    exact hx z hz
  have HC := Aside0.mk hC
  have HL := Aside0.mk hL
  have HT : Aside0 (xs.length ≤ 1048576 → ∀ w1, Below w.heap.size w w1 → Calls Tryd.prog 11 #[.slice A xs.length c] w1 fun e w' => ∃ v, e = .returned v ∧ Kd.R k31 31 w' w1.heap.size tt v (xs.map cx) ∧ Below w1.heap.size w1 w') := ⟨fun hn w1 hb => toXS_calls xs A c w1 (Kd.C_below hC hb) hn⟩
  have HS : Aside0 (∀ A' c' w1, Kd.C k31 w1 A' (xs.map cx).length (xs.map cx) → Calls Tryd.prog 10 #[.slice A' (xs.map cx).length c'] w1 (IdealOut w1 (idealM idxL (xs.map cx)))) := ⟨fun A' c' w1 h => runS_calls _ A' c' w1 h⟩
  have HI : Aside0 (∀ A' c' w1, Below w.heap.size w w1 → Kd.C k31 w1 A' (xs.map cx).length (xs.map cx) → Calls Tryd.prog 12 #[.slice A' (xs.map cx).length c'] w1 (IdealOut w1 (idealM idxL (xs.map cx)))) := ⟨fun A' c' w1 hb h => runI_calls _ hx' A' c' w1 (hL.below hb) h⟩
  have HV := Aside0.mk (idealM_ok (xs.map cx))
  have HXL := Aside0.mk (show (xs.map cx).length = xs.length by simp)
  generalize idealM idxL (xs.map cx) = V at *
  generalize xs.map cx = acts at *
  obtain ⟨vb, an, ts⟩ := V
  clear hC hL hx hx'
  have hu := Tryd.underlying39
  go_enter Tryd.func4, Tryd.ntmps4
  go_upto_region 3 with (go_at_call 9; refine (szXS_calls xs A c w HC.out).mono ?_; rintro e w1 ⟨⟨r, rfl, hn⟩, hb⟩; have HB1 := Aside0.mk hb; have HN := Aside0.mk hn; clear hb hn)
  by_cases hr0 : r < 0
  · have c1 : decide (r < 0) = true := decide_eq_true hr0
    go_wp2
    go_ret
    exact ⟨rfl, HB1.out⟩
  have c1 : decide (r < 0) = false := decide_eq_false hr0
  replace HN := Aside0.mk (HN.out (by omega))
  replace HT := Aside0.mk (HT.out HN.out)
  clear hr0
  -- the reference's answer
  go_upto_region 6 with (first | (go_at_call 11; have hb0 := HB1.out; refine (HT.out _ hb0).mono ?_; rintro e w2 ⟨v, rfl, hr, hb⟩; obtain ⟨A2, k2, rfl⟩ := Kd.R_slice hr; have HR2 := Aside0.mk hr; have HB2 := Aside0.mk (below_step hb0 hb); clear hb0 HB1 hr hb) | (go_at_call 10; refine (HS.out A2 k2 _ (Kd.R_reads' HR2.out).2.2).mono ?_; rintro e w3 ⟨a0, t0, rfl, ha, ht, hb⟩; obtain ⟨A3, k3a, rfl⟩ := Kd.R_slice ha; obtain ⟨A4, k4, rfl⟩ := Kd.S_slice ht; have F0 := Aside0.mk (Held.new (V := ⟨vb, an, ts⟩) ha ht); have HB3 := Aside0.mk (below_alloc (below_step HB2.out hb) (.cells #[.bool vb, .slice A3 an.length k3a, .slice A4 ts.length k4] 39)); clear HR2 HB2 ha ht hb))
  obtain ⟨W3, e3⟩ : ∃ W, W = w3.alloc (.cells #[.bool vb, .slice A3 an.length k3a, .slice A4 ts.length k4] 39) := ⟨_, rfl⟩
  rw [← e3] at F0 HB3 ⊢
  clear e3 HS
  generalize w3.heap.size = b0 at *
  generalize w2.heap.size = q0 at *
  -- the copy that is played, and the program's answer
  go_upto_region 7 with (go_at_call 11; refine (HT.out _ HB3.out).mono ?_; rintro e w4 ⟨v, rfl, hr, hb⟩; obtain ⟨A5, k5, rfl⟩ := Kd.R_slice hr; have HX4 := Aside0.mk hr; have HB4 := Aside0.mk (below_step HB3.out hb); have F4 := Aside0.mk (F0.out.below hb); have LX := Aside0.mk HB3.out.size; have LW := Aside0.mk hb.size; clear F0 HB3 hr hb)
  go_upto_region 8 with (go_at_call 12; refine (HI.out A5 k5 _ HB4.out (Kd.R_reads' HX4.out).2.2).mono ?_; rintro e w5 ⟨a0, t0, rfl, ha, ht, hb⟩; obtain ⟨A6, k6, rfl⟩ := Kd.R_slice ha; obtain ⟨A7, k7, rfl⟩ := Kd.S_slice ht; have G5 := Aside0.mk (Held.new (V := ⟨vb, an, ts⟩) ha ht); have hb5 := below_alloc hb (.cells #[.bool vb, .slice A6 an.length k6, .slice A7 ts.length k7] 39); have HB5 := Aside0.mk (below_step HB4.out hb5); have KW5 := Aside0.mk (KT.below (L := [31]) hb5); have HX5 := Aside0.mk (Kd.R_below HX4.out hb5); have LG := Aside0.mk (And.intro HB4.out.size hb5.size); clear HX4 ha ht hb hb5)
  obtain ⟨W5, e5⟩ : ∃ W, W = w5.alloc (.cells #[.bool vb, .slice A6 an.length k6, .slice A7 ts.length k7] 39) := ⟨_, rfl⟩
  rw [← e5] at G5 HB5 KW5 HX5 LG ⊢
  clear e5
  generalize w5.heap.size = b1 at *
  obtain ⟨gz0, gz1, gz2⟩ := k3 G5.out.1
  obtain ⟨wz0, wz1, wz2⟩ := k3 (F4.out.kt KW5.out).1
  go_upto_region 10 with (go_at_call 13; refine (eqi_calls vb an ts A6 A3 A7 A4 k6 k3a k7 k4 _ (Kd.R_reads' G5.out.2.1).2.2 (Kd.R_reads' (F4.out.kt KW5.out).2.1).2.2 (Kd.S_reads' G5.out.2.2).2.2 (Kd.S_reads' (F4.out.kt KW5.out).2.2).2.2).mono ?_; rintro e w6 ⟨rfl, hb⟩; have G6 := Aside0.mk (G5.out.below hb); have HB6 := Aside0.mk (below_step HB5.out hb); have KW6 := Aside0.mk (KW5.out.trans (KT.below hb)); have HX6 := Aside0.mk (Kd.R_below HX5.out hb); have LG6 := Aside0.mk (Nat.le_trans LG.out.2 hb.size); clear G5 HB5 KW5 HX5 hb gz0 gz1 gz2 wz0 wz1 wz2)
  -- the argument is as it was
  go_upto_region 12 with (first | (go_at_call 11; have hb0 := HB6.out; refine (HT.out _ hb0).mono ?_; rintro e w7 ⟨v, rfl, hr, hb⟩; obtain ⟨A8, k8, rfl⟩ := Kd.R_slice hr; have HY7 := Aside0.mk hr; have G7 := Aside0.mk (G6.out.below hb); have HB7 := Aside0.mk (below_step hb0 hb); have KW7 := Aside0.mk (KW6.out.trans (KT.below hb)); have HX7 := Aside0.mk (Kd.R_below HX6.out hb); have LG7 := Aside0.mk (Nat.le_trans LG6.out hb.size); clear hb0 G6 HB6 KW6 HX6 LG6 hr hb) | (go_at_call 14; refine (eqxs_calls acts A5 A8 k5 k8 _ (Kd.R_reads' HX7.out).2.2 (Kd.R_reads' HY7.out).2.2).mono ?_; rintro e w8 ⟨rfl, hb⟩; have G8 := Aside0.mk (G7.out.below hb); have HB8 := Aside0.mk (below_step HB7.out hb); have KW8 := Aside0.mk (KW7.out.trans (KT.below hb)); have HX8 := Aside0.mk (Kd.R_below HX7.out hb); have LG8 := Aside0.mk (Nat.le_trans LG7.out hb.size); clear HY7 G7 HB7 KW7 HX7 LG7 hb))
  -- the argument's copy is marked
  have hkb : (1 : Int) + 14 * (acts.length : Int) < 1000000000000000 := by have := HN.out; have := HXL.out; omega
  have hk0 : decide ((1 : Int) + 14 * (acts.length : Int) < 0) = false := decide_eq_false (by omega)
  have HM : Aside0 (Calls Tryd.prog 15 #[.slice A5 acts.length k5, .int .i64 1] w8 fun e w' => e = .returned (.int .i64 (1 + 14 * acts.length)) ∧ OnlyR W3.heap.size tt 31 w8 w') := ⟨(mkx_calls acts 1 _ _ tt w8 HX8.out (by decide) hkb).mono (fun e w' h => ⟨h.1, h.2.choose_spec.2.2.2⟩)⟩
  have LX8 : Aside0 (W3.heap.size ≤ w8.heap.size) := ⟨Nat.le_trans LW.out LG8.out⟩
  clear HX8 hkb
  generalize (1 : Int) + 14 * (acts.length : Int) = K0 at *
  go_upto_region 14 with (go_at_call 15; refine HM.out.mono ?_; rintro e w9 ⟨rfl, ho⟩; have G9 := Aside0.mk (G8.out.kt (ho.kt (by simp))); have HB9 := Aside0.mk (HB8.out.trans ((ho.below LX8.out).mono LX.out)); have KW9 := Aside0.mk (KW8.out.trans (ho.kt (by simp))); have LG9 := Aside0.mk (Nat.le_trans LG8.out ho.size); clear HM G8 HB8 KW8 LG8 LX8 ho; obtain ⟨gz0, gz1, gz2⟩ := k3 G9.out.1; obtain ⟨wz0, wz1, wz2⟩ := k3 (F4.out.kt KW9.out).1)
  go_upto_region 16 with (go_at_call 13; refine (eqi_calls vb an ts A6 A3 A7 A4 k6 k3a k7 k4 _ (Kd.R_reads' G9.out.2.1).2.2 (Kd.R_reads' (F4.out.kt KW9.out).2.1).2.2 (Kd.S_reads' G9.out.2.2).2.2 (Kd.S_reads' (F4.out.kt KW9.out).2.2).2.2).mono ?_; rintro e w10 ⟨rfl, hb⟩; have G10 := Aside0.mk (G9.out.below hb); have HB10 := Aside0.mk (below_step HB9.out hb); have KW10 := Aside0.mk (KW9.out.trans (KT.below hb)); have LG10 := Aside0.mk (Nat.le_trans LG9.out hb.size); clear G9 HB9 KW9 LG9 hb gz0 gz1 gz2 wz0 wz1 wz2)
  -- the answer is marked, and holds its marks
  have hp := posL_in (lenT ts) (1 + 12 * (an.length : Int)) (by omega) (lenT_le HV.out.2.2) ts.length
  have HK : Aside0 (∀ w1, Kd.R k60 60 w1 w4.heap.size tt (.slice A6 an.length k6) an → Kd.S k78 78 w1 w4.heap.size tt (.slice A7 ts.length k7) ts → w4.heap.size ≤ w1.heap.size → Calls Tryd.prog 16 #[.agg #[.bool vb, .slice A6 an.length k6, .slice A7 ts.length k7], .int .i64 1] w1 fun e w' => e = .returned (.int .i64 (posL (lenT ts) (1 + 12 * (an.length : Int)) ts.length)) ∧ ∃ bn ys, (Kd.R k60 60 w' w4.heap.size tt (.slice A6 an.length k6) bn ∧ Kd.S k78 78 w' w4.heap.size tt (.slice A7 ts.length k7) ys) ∧ (∀ b2 w2, Held ⟨vb, bn, ys⟩ b2 w4.heap.size (.slice A6 an.length k6) (.slice A7 ts.length k7) w2 → Calls Tryd.prog 17 #[.agg #[.bool vb, .slice A6 an.length k6, .slice A7 ts.length k7], .int .i64 1] w2 fun e w' => e = .returned (.int .i64 (posL (lenT ts) (1 + 12 * (an.length : Int)) ts.length)) ∧ Below w2.heap.size w2 w') ∧ Below w4.heap.size w1 w' ∧ KT [60, 88, 78] w1 w') := ⟨fun w1 ha ht hb => (mki_calls vb an ts _ _ w4.heap.size w1 hb ha ht HV.out.1 HV.out.2.1 HV.out.2.2).mono (by
    rintro e w' ⟨he, bn, ys, hbl, hbb, hyl, hyy, hbR, hyS, hbe, hkt⟩
    refine ⟨he, bn, ys, ⟨hbR, hyS⟩, fun b2 w2 h2 => ?_, hbe, hkt⟩
    have h3 := hdi_calls vb bn ys (lenT ts) A6 A7 k6 k7 w2 (Kd.R_reads' h2.2.1).2.2 (Kd.S_reads' h2.2.2).2.2 (by rw [hbl]; exact HV.out.1) (by rw [hyl]; exact HV.out.2.1) (lenT_le HV.out.2.2) hbb (by rw [hbl]; exact hyy)
    rw [hbl, hyl] at h3
    exact h3)⟩
  generalize posL (lenT ts) (1 + 12 * (an.length : Int)) ts.length = K at *
  have hkk : decide (K < 0) = false := decide_eq_false (by omega)
  clear hp HV
  obtain ⟨gz0, gz1, gz2⟩ := k3 G10.out.1
  go_upto_region 18 with (go_at_call 16; refine (HK.out _ G10.out.2.1 G10.out.2.2 LG10.out).mono ?_; rintro e w11 ⟨rfl, bn, ys, hbR, hhd, hbe, hkt⟩; have G11 := Aside0.mk (show Held ⟨vb, bn, ys⟩ b1 w4.heap.size (.slice A6 an.length k6) (.slice A7 ts.length k7) w11 from ⟨hkt.blk G10.out.1 (by decide), hbR⟩); have HH := Aside0.mk hhd; have HB11 := Aside0.mk (HB10.out.trans (hbe.mono LG.out.1)); have KW11 := Aside0.mk (KW10.out.after hbe); clear HK G10 HB10 KW10 LG10 hbR hhd hbe hkt gz0 gz1 gz2; obtain ⟨gz0, gz1, gz2⟩ := k3 G11.out.1)
  go_upto_region 24 with (go_at_call 17; refine (HH.out _ _ G11.out).mono ?_; rintro e w12 ⟨rfl, hb⟩; have G12 := Aside0.mk (G11.out.below hb); have HB12 := Aside0.mk (below_step HB11.out hb); have KW12 := Aside0.mk (KW11.out.trans (KT.below hb)); clear G11 HB11 KW11 hb gz0 gz1 gz2)
  -- another call
  go_upto_region 25 with (first | (go_at_call 11; have hb0 := HB12.out; refine (HT.out _ hb0).mono ?_; rintro e w13 ⟨v, rfl, hr, hb⟩; obtain ⟨A8, k8, rfl⟩ := Kd.R_slice hr; have HY13 := Aside0.mk hr; have G13 := Aside0.mk (G12.out.below hb); have HB13 := Aside0.mk (below_step hb0 hb); have KW13 := Aside0.mk (KW12.out.trans (KT.below hb)); clear hb0 G12 HB12 KW12 hr hb) | (go_at_call 12; refine (HI.out A8 k8 _ HB13.out (Kd.R_reads' HY13.out).2.2).mono ?_; rintro e w14 ⟨a0, t0, rfl, ha, ht, hb⟩; obtain ⟨A9, k9, rfl⟩ := Kd.R_slice ha; obtain ⟨B1, k10, rfl⟩ := Kd.S_slice ht; have H14 := Aside0.mk (Held.new (V := ⟨vb, an, ts⟩) ha ht); have hb14 := below_alloc hb (.cells #[.bool vb, .slice A9 an.length k9, .slice B1 ts.length k10] 39); have G14 := Aside0.mk (G13.out.below hb14); have HB14 := Aside0.mk (below_step HB13.out hb14); have KW14 := Aside0.mk (KW13.out.trans (KT.below hb14)); clear HY13 G13 HB13 KW13 ha ht hb hb14))
  obtain ⟨W14, e14⟩ : ∃ W, W = w14.alloc (.cells #[.bool vb, .slice A9 an.length k9, .slice B1 ts.length k10] 39) := ⟨_, rfl⟩
  rw [← e14] at H14 G14 HB14 KW14 ⊢
  clear e14
  generalize w14.heap.size = b2 at *
  generalize w13.heap.size = q2 at *
  obtain ⟨hz0, hz1, hz2⟩ := k3 H14.out.1
  obtain ⟨wz0, wz1, wz2⟩ := k3 (F4.out.kt KW14.out).1
  go_upto_region 27 with (go_at_call 13; refine (eqi_calls vb an ts A9 A3 B1 A4 k9 k3a k10 k4 _ (Kd.R_reads' H14.out.2.1).2.2 (Kd.R_reads' (F4.out.kt KW14.out).2.1).2.2 (Kd.S_reads' H14.out.2.2).2.2 (Kd.S_reads' (F4.out.kt KW14.out).2.2).2.2).mono ?_; rintro e w15 ⟨rfl, hb⟩; have G15 := Aside0.mk (G14.out.below hb); have HB15 := Aside0.mk (below_step HB14.out hb); clear H14 G14 HB14 KW14 hb hz0 hz1 hz2 wz0 wz1 wz2; obtain ⟨gz0, gz1, gz2⟩ := k3 G15.out.1)
  go_wp2_with (go_at_call 17; refine (HH.out _ _ G15.out).mono ?_; rintro e w16 ⟨rfl, hb⟩; have HB16 := Aside0.mk (below_step HB15.out hb); clear hb)
  go_ret
  exact ⟨rfl, HB16.out⟩
end Go.Proofs.YtclploookcjcbaaDoor.PIde
