/- Proved: what the law's heldPairS comes to at a marked row; what the law's heldAnsS comes to at a marked row; what the law's heldPlainS and heldIdeal come to at marked tables and answers; what the law's copies of its argument (toValue, toAct, toActS) and its sizes (szValue, szAct, szActS) come to; what the law's copy of its argument (toActS) and its sizes (szValue, szAct, szActS) come to. Conditions: those each theorem states. -/
import Derived.Test.YtclploookcjcbaaDoorIdGE
import Derived.Deep.RegionLaw
namespace Go.Proofs.YtclploookcjcbaaDoor.PIde
open Go.RowKit Go.Proofs.YtclploookcjcbaaDoorW.PrintWords Go.Proofs.YtclploookcjcbaaDoorW.PrintLast Go.Proofs.YtclploookcjcbaaDoorW.PrintMore Go.Proofs.YtclploookcjcbaaDoorW.FltL
attribute [local go_sem] max2_int min2_int max_two min_two max_three min_three max_four min_four   -- for this text's walks alone
set_option linter.unusedVariables false
set_option linter.unusedSimpArgs false
theorem bcell {w w' : World} {p : Addr} {v : Value} (hb : Below w.heap.size w w') (h : w.cell? p = some v) : w'.cell? p = some v := (hb.cell (World.block_lt_of_cell? w _ h)).trans h
set_option maxHeartbeats 8000000 in
set_option maxRecDepth 100000 in
theorem hdp_calls (xs : List S88) (k : Int) (A : Option Addr) (c : Nat) (w : World) (hr : Kd.C k88 w A xs.length xs) (hk : 0 ≤ k) (hb : k + 11 * xs.length < 1000000000000000) (hx : ∀ j : Nat, j < xs.length → xs[j]? = some (mP (k + 11 * j))) :
    Calls Tryd.prog 50 #[.slice A xs.length c, .int .i64 k] w fun e w' => e = .returned (.int .i64 (k + 11 * xs.length)) ∧ Below w.heap.size w w' := by
  have HR := Aside0.mk hr
  have HM := Aside0.mk hr.2.1
  have HX := Aside0.mk hx
  have HB := Aside0.mk hb
  have HK := Aside0.mk hk
  have HQ := Aside0.mk (Below.refl w.heap.size w)
  clear hr hb hk hx
  have hu := Tryd.underlying88
  have hu2 := Tryd.underlying29
  go_enter Tryd.func50, Tryd.ntmps50
  go_wp2
  go_loopg [1, 5] xs.length (fun d v1 v5 wr => ∃ i : Nat, v5 = .int .i64 (i : Int) ∧ v1 = .int .i64 (k + 11 * i) ∧ Aside0 (i + d = xs.length) ∧ Aside0 (Below w.heap.size w wr))
  case atStart => exact ⟨0, rfl, by simp, ⟨Nat.zero_add _⟩, HQ⟩
  case round =>
    clear HQ
    obtain ⟨i, rfl, rfl, HD, HQ⟩ := hrel
    have hm := HM.out
    cases gk with
    | zero =>
      have hi : i = xs.length := by have := HD.out; omega
      subst hi
      have c1 : decide ((xs.length : Int) < (xs.length : Int)) = false := decide_eq_false (by omega)
      have c1n : decide (xs.length < xs.length) = false := decide_eq_false (by omega)
      clear hm
      go_wp2
      go_ret
      exact ⟨rfl, HQ.out⟩
    | succ d =>
      have hi : i < xs.length := by have := HD.out; omega
      have c1 : decide ((i : Int) < (xs.length : Int)) = true := decide_eq_true (by omega)
      have c1n : decide (i < xs.length) = true := decide_eq_true hi
      have c2 : decide (0 ≤ (i : Int)) = true := decide_eq_true (by omega)
      have hkk : 0 ≤ k ∧ k + 11 * (i : Int) + 11 < 1000000000000000 := ⟨HK.out, by have := HB.out; omega⟩
      obtain ⟨k0, hk0⟩ : ∃ k0 : Int, k0 = k + 11 * (i : Int) := ⟨_, rfl⟩
      rw [← hk0]
      obtain ⟨k1, hk1⟩ : ∃ q : Int, q = k0 + 1 := ⟨_, rfl⟩
      have hv1 : IntKind.i64.wrap (k0 + 1) = k1 := by rw [IntWalk.i64_in _ ⟨by omega, by omega⟩]; omega
      obtain ⟨k2, hk2⟩ : ∃ q : Int, q = k1 + 1 := ⟨_, rfl⟩
      have hv2 : IntKind.i64.wrap (k1 + 1) = k2 := by rw [IntWalk.i64_in _ ⟨by omega, by omega⟩]; omega
      obtain ⟨k3, hk3⟩ : ∃ q : Int, q = k2 + 1 := ⟨_, rfl⟩
      have hv3 : IntKind.i64.wrap (k2 + 1) = k3 := by rw [IntWalk.i64_in _ ⟨by omega, by omega⟩]; omega
      obtain ⟨k4, hk4⟩ : ∃ q : Int, q = k3 + 1 := ⟨_, rfl⟩
      have hv4 : IntKind.i64.wrap (k3 + 1) = k4 := by rw [IntWalk.i64_in _ ⟨by omega, by omega⟩]; omega
      obtain ⟨k5, hk5⟩ : ∃ q : Int, q = k4 + 1 := ⟨_, rfl⟩
      have hv5 : IntKind.i64.wrap (k4 + 1) = k5 := by rw [IntWalk.i64_in _ ⟨by omega, by omega⟩]; omega
      obtain ⟨k6, hk6⟩ : ∃ q : Int, q = k5 + 1 := ⟨_, rfl⟩
      have hv6 : IntKind.i64.wrap (k5 + 1) = k6 := by rw [IntWalk.i64_in _ ⟨by omega, by omega⟩]; omega
      obtain ⟨k7, hk7⟩ : ∃ q : Int, q = k6 + 1 := ⟨_, rfl⟩
      have hv7 : IntKind.i64.wrap (k6 + 1) = k7 := by rw [IntWalk.i64_in _ ⟨by omega, by omega⟩]; omega
      obtain ⟨k8, hk8⟩ : ∃ q : Int, q = k7 + 1 := ⟨_, rfl⟩
      have hv8 : IntKind.i64.wrap (k7 + 1) = k8 := by rw [IntWalk.i64_in _ ⟨by omega, by omega⟩]; omega
      obtain ⟨k9, hk9⟩ : ∃ q : Int, q = k8 + 1 := ⟨_, rfl⟩
      have hv9 : IntKind.i64.wrap (k8 + 1) = k9 := by rw [IntWalk.i64_in _ ⟨by omega, by omega⟩]; omega
      obtain ⟨k10, hk10⟩ : ∃ q : Int, q = k9 + 1 := ⟨_, rfl⟩
      have hv10 : IntKind.i64.wrap (k9 + 1) = k10 := by rw [IntWalk.i64_in _ ⟨by omega, by omega⟩]; omega
      obtain ⟨k11, hk11⟩ : ∃ q : Int, q = k10 + 1 := ⟨_, rfl⟩
      have hv11 : IntKind.i64.wrap (k10 + 1) = k11 := by rw [IntWalk.i64_in _ ⟨by omega, by omega⟩]; omega
      have hel : rd_T88 xs (i : Int) = (⟨⟨k0, k1, (floatOfInt .f64 k2), (mtx k3), k4⟩, ⟨k5, k6, (floatOfInt .f64 k7), (mtx k8), k9⟩, k10⟩ : S88) := by
        have h1 := HX.out i hi
        rw [← hk0] at h1
        simp only [mP, mV] at h1
        simp only [show k0 + 1 = k1 by omega, show k0 + 2 = k2 by omega, show k0 + 3 = k3 by omega, show k0 + 4 = k4 by omega, show k0 + 5 = k5 by omega, show k5 + 1 = k6 by omega, show k5 + 2 = k7 by omega, show k5 + 3 = k8 by omega, show k5 + 4 = k9 by omega, show k0 + 10 = k10 by omega] at h1
        simp only [rd_T88, List.getD_eq_getElem?_getD, Int.toNat_natCast, h1, Option.getD_some]
      obtain ⟨ad, e1, hx0, hx1, hx2, hx3, hx4, hx5, hx6, hx7, hx8, hx9, hx10⟩ := at_T88 (Kd.C_below HR.out HQ.out) (i : Int) (by omega) (by omega)
      cases e1
      rw [hel] at hx0 hx1 hx2 hx3 hx4 hx5 hx6 hx7 hx8 hx9 hx10
      simp only [Int.toNat_natCast] at hx0 hx1 hx2 hx3 hx4 hx5 hx6 hx7 hx8 hx9 hx10
      have q1 : 0 ≤ (i : Int) := by omega
      have q2 : (i : Int) < (xs.length : Int) := by omega
      have q3 : IntKind.i64.wrap ((i : Int) + 1) = ((i + 1 : Nat) : Int) := by rw [IntWalk.i64_in _ ⟨by omega, by omega⟩]; omega
      have hf2 : feq (floatOfInt .f64 k2) (floatOfInt .f64 k2) = true := feq_whole k2 (by omega) (by omega)
      have HL3 : Aside0 (∀ w1, Calls Tryd.prog 30 #[.int .i64 k3] w1 fun e w' => e = .returned (.string (mtx k3)) ∧ Below w1.heap.size w1 w') := ⟨fun w1 => mt_calls k3 (by omega) w1⟩
      have hf7 : feq (floatOfInt .f64 k7) (floatOfInt .f64 k7) = true := feq_whole k7 (by omega) (by omega)
      have HL8 : Aside0 (∀ w1, Calls Tryd.prog 30 #[.int .i64 k8] w1 fun e w' => e = .returned (.string (mtx k8)) ∧ Below w1.heap.size w1 w') := ⟨fun w1 => mt_calls k8 (by omega) w1⟩
      have HE := Aside0.mk (show k11 = k + 11 * ((i + 1 : Nat) : Int) by omega)
      clear hm hi hkk hel hk0 hk1 hk2 hk3 hk4 hk5 hk6 hk7 hk8 hk9 hk10 hk11
      all_goals
        go_wp2
        go_region_law (go_simp; go_at_call 30; refine (HL3.out _).mono ?_; rintro e w1 ⟨rfl, hb⟩; have HQ1 := Aside0.mk (below_step HQ.out (undrew hb)); replace hx3 := bcell (undrew hb) hx3; replace hx4 := bcell (undrew hb) hx4; replace hx5 := bcell (undrew hb) hx5; replace hx6 := bcell (undrew hb) hx6; replace hx7 := bcell (undrew hb) hx7; replace hx8 := bcell (undrew hb) hx8; replace hx9 := bcell (undrew hb) hx9; replace hx10 := bcell (undrew hb) hx10; clear hb)
      all_goals
        go_wp2
        go_region_law (go_simp; go_at_call 30; refine (HL8.out _).mono ?_; rintro e w2 ⟨rfl, hb⟩; have HQ2 := Aside0.mk (below_step HQ1.out (undrew hb)); replace hx8 := bcell (undrew hb) hx8; replace hx9 := bcell (undrew hb) hx9; replace hx10 := bcell (undrew hb) hx10; clear hb)
      all_goals
        go_wp2
        go_roundg d
        case measure => omega
        case rel => exact ⟨i + 1, by first | rfl | (rw [q3]; done) | simp, by rw [HE.out], ⟨by have := HD.out; omega⟩, HQ2⟩
end Go.Proofs.YtclploookcjcbaaDoor.PIde
namespace Go.Proofs.YtclploookcjcbaaDoor.PIde
open Go.RowKit Go.Proofs.YtclploookcjcbaaDoorW.PrintWords Go.Proofs.YtclploookcjcbaaDoorW.PrintLast Go.Proofs.YtclploookcjcbaaDoorW.PrintMore Go.Proofs.YtclploookcjcbaaDoorW.FltL
attribute [local go_sem] max2_int min2_int max_two min_two max_three min_three max_four min_four   -- for this text's walks alone
set_option linter.unusedVariables false
set_option linter.unusedSimpArgs false
set_option maxHeartbeats 8000000 in
set_option maxRecDepth 100000 in
theorem hda_calls (xs : List S60) (k : Int) (A : Option Addr) (c : Nat) (w : World) (hr : Kd.C k60 w A xs.length xs) (hk : 0 ≤ k) (hb : k + 12 * xs.length < 1000000000000000) (hx : ∀ j : Nat, j < xs.length → xs[j]? = some (mA (k + 12 * j))) :
    Calls Tryd.prog 33 #[.slice A xs.length c, .int .i64 k] w fun e w' => e = .returned (.int .i64 (k + 12 * xs.length)) ∧ Below w.heap.size w w' := by
  have HR := Aside0.mk hr
  have HM := Aside0.mk hr.2.1
  have HX := Aside0.mk hx
  have HB := Aside0.mk hb
  have HK := Aside0.mk hk
  have HQ := Aside0.mk (Below.refl w.heap.size w)
  clear hr hb hk hx
  have hu := Tryd.underlying60
  have hu2 := Tryd.underlying29
  go_enter Tryd.func33, Tryd.ntmps33
  go_wp2
  go_loopg [1, 5] xs.length (fun d v1 v5 wr => ∃ i : Nat, v5 = .int .i64 (i : Int) ∧ v1 = .int .i64 (k + 12 * i) ∧ Aside0 (i + d = xs.length) ∧ Aside0 (Below w.heap.size w wr))
  case atStart => exact ⟨0, rfl, by simp, ⟨Nat.zero_add _⟩, HQ⟩
  case round =>
    clear HQ
    obtain ⟨i, rfl, rfl, HD, HQ⟩ := hrel
    have hm := HM.out
    cases gk with
    | zero =>
      have hi : i = xs.length := by have := HD.out; omega
      subst hi
      have c1 : decide ((xs.length : Int) < (xs.length : Int)) = false := decide_eq_false (by omega)
      have c1n : decide (xs.length < xs.length) = false := decide_eq_false (by omega)
      clear hm
      go_wp2
      go_ret
      exact ⟨rfl, HQ.out⟩
    | succ d =>
      have hi : i < xs.length := by have := HD.out; omega
      have c1 : decide ((i : Int) < (xs.length : Int)) = true := decide_eq_true (by omega)
      have c1n : decide (i < xs.length) = true := decide_eq_true hi
      have c2 : decide (0 ≤ (i : Int)) = true := decide_eq_true (by omega)
      have hkk : 0 ≤ k ∧ k + 12 * (i : Int) + 12 < 1000000000000000 := ⟨HK.out, by have := HB.out; omega⟩
      obtain ⟨k0, hk0⟩ : ∃ k0 : Int, k0 = k + 12 * (i : Int) := ⟨_, rfl⟩
      rw [← hk0]
      obtain ⟨k1, hk1⟩ : ∃ q : Int, q = k0 + 1 := ⟨_, rfl⟩
      have hv1 : IntKind.i64.wrap (k0 + 1) = k1 := by rw [IntWalk.i64_in _ ⟨by omega, by omega⟩]; omega
      obtain ⟨k2, hk2⟩ : ∃ q : Int, q = k1 + 1 := ⟨_, rfl⟩
      have hv2 : IntKind.i64.wrap (k1 + 1) = k2 := by rw [IntWalk.i64_in _ ⟨by omega, by omega⟩]; omega
      obtain ⟨k3, hk3⟩ : ∃ q : Int, q = k2 + 1 := ⟨_, rfl⟩
      have hv3 : IntKind.i64.wrap (k2 + 1) = k3 := by rw [IntWalk.i64_in _ ⟨by omega, by omega⟩]; omega
      obtain ⟨k4, hk4⟩ : ∃ q : Int, q = k3 + 1 := ⟨_, rfl⟩
      have hv4 : IntKind.i64.wrap (k3 + 1) = k4 := by rw [IntWalk.i64_in _ ⟨by omega, by omega⟩]; omega
      obtain ⟨k5, hk5⟩ : ∃ q : Int, q = k4 + 1 := ⟨_, rfl⟩
      have hv5 : IntKind.i64.wrap (k4 + 1) = k5 := by rw [IntWalk.i64_in _ ⟨by omega, by omega⟩]; omega
      obtain ⟨k6, hk6⟩ : ∃ q : Int, q = k5 + 1 := ⟨_, rfl⟩
      have hv6 : IntKind.i64.wrap (k5 + 1) = k6 := by rw [IntWalk.i64_in _ ⟨by omega, by omega⟩]; omega
      obtain ⟨k7, hk7⟩ : ∃ q : Int, q = k6 + 1 := ⟨_, rfl⟩
      have hv7 : IntKind.i64.wrap (k6 + 1) = k7 := by rw [IntWalk.i64_in _ ⟨by omega, by omega⟩]; omega
      obtain ⟨k8, hk8⟩ : ∃ q : Int, q = k7 + 1 := ⟨_, rfl⟩
      have hv8 : IntKind.i64.wrap (k7 + 1) = k8 := by rw [IntWalk.i64_in _ ⟨by omega, by omega⟩]; omega
      obtain ⟨k9, hk9⟩ : ∃ q : Int, q = k8 + 1 := ⟨_, rfl⟩
      have hv9 : IntKind.i64.wrap (k8 + 1) = k9 := by rw [IntWalk.i64_in _ ⟨by omega, by omega⟩]; omega
      obtain ⟨k10, hk10⟩ : ∃ q : Int, q = k9 + 1 := ⟨_, rfl⟩
      have hv10 : IntKind.i64.wrap (k9 + 1) = k10 := by rw [IntWalk.i64_in _ ⟨by omega, by omega⟩]; omega
      obtain ⟨k11, hk11⟩ : ∃ q : Int, q = k10 + 1 := ⟨_, rfl⟩
      have hv11 : IntKind.i64.wrap (k10 + 1) = k11 := by rw [IntWalk.i64_in _ ⟨by omega, by omega⟩]; omega
      obtain ⟨k12, hk12⟩ : ∃ q : Int, q = k11 + 1 := ⟨_, rfl⟩
      have hv12 : IntKind.i64.wrap (k11 + 1) = k12 := by rw [IntWalk.i64_in _ ⟨by omega, by omega⟩]; omega
      have hel : rd_T60 xs (i : Int) = (⟨k0, k1, ⟨k2, k3, (floatOfInt .f64 k4), (mtx k5), k6⟩, ⟨k7, k8, (floatOfInt .f64 k9), (mtx k10), k11⟩⟩ : S60) := by
        have h1 := HX.out i hi
        rw [← hk0] at h1
        simp only [mA, mV] at h1
        simp only [show k0 + 2 = k2 by omega, show k2 + 1 = k3 by omega, show k2 + 2 = k4 by omega, show k2 + 3 = k5 by omega, show k2 + 4 = k6 by omega, show k0 + 7 = k7 by omega, show k7 + 1 = k8 by omega, show k7 + 2 = k9 by omega, show k7 + 3 = k10 by omega, show k7 + 4 = k11 by omega, show k0 + 1 = k1 by omega] at h1
        simp only [rd_T60, List.getD_eq_getElem?_getD, Int.toNat_natCast, h1, Option.getD_some]
      obtain ⟨ad, e1, hx0, hx1, hx2, hx3, hx4, hx5, hx6, hx7, hx8, hx9, hx10, hx11⟩ := at_T60 (Kd.C_below HR.out HQ.out) (i : Int) (by omega) (by omega)
      cases e1
      rw [hel] at hx0 hx1 hx2 hx3 hx4 hx5 hx6 hx7 hx8 hx9 hx10 hx11
      simp only [Int.toNat_natCast] at hx0 hx1 hx2 hx3 hx4 hx5 hx6 hx7 hx8 hx9 hx10 hx11
      have q1 : 0 ≤ (i : Int) := by omega
      have q2 : (i : Int) < (xs.length : Int) := by omega
      have q3 : IntKind.i64.wrap ((i : Int) + 1) = ((i + 1 : Nat) : Int) := by rw [IntWalk.i64_in _ ⟨by omega, by omega⟩]; omega
      have hf4 : feq (floatOfInt .f64 k4) (floatOfInt .f64 k4) = true := feq_whole k4 (by omega) (by omega)
      have HL5 : Aside0 (∀ w1, Calls Tryd.prog 30 #[.int .i64 k5] w1 fun e w' => e = .returned (.string (mtx k5)) ∧ Below w1.heap.size w1 w') := ⟨fun w1 => mt_calls k5 (by omega) w1⟩
      have hf9 : feq (floatOfInt .f64 k9) (floatOfInt .f64 k9) = true := feq_whole k9 (by omega) (by omega)
      have HL10 : Aside0 (∀ w1, Calls Tryd.prog 30 #[.int .i64 k10] w1 fun e w' => e = .returned (.string (mtx k10)) ∧ Below w1.heap.size w1 w') := ⟨fun w1 => mt_calls k10 (by omega) w1⟩
      have HE := Aside0.mk (show k12 = k + 12 * ((i + 1 : Nat) : Int) by omega)
      clear hm hi hkk hel hk0 hk1 hk2 hk3 hk4 hk5 hk6 hk7 hk8 hk9 hk10 hk11 hk12
      all_goals
        go_wp2
        go_region_law (go_simp; go_at_call 30; refine (HL5.out _).mono ?_; rintro e w1 ⟨rfl, hb⟩; have HQ1 := Aside0.mk (below_step HQ.out (undrew hb)); replace hx5 := bcell (undrew hb) hx5; replace hx6 := bcell (undrew hb) hx6; replace hx7 := bcell (undrew hb) hx7; replace hx8 := bcell (undrew hb) hx8; replace hx9 := bcell (undrew hb) hx9; replace hx10 := bcell (undrew hb) hx10; replace hx11 := bcell (undrew hb) hx11; clear hb)
      all_goals
        go_wp2
        go_region_law (go_simp; go_at_call 30; refine (HL10.out _).mono ?_; rintro e w2 ⟨rfl, hb⟩; have HQ2 := Aside0.mk (below_step HQ1.out (undrew hb)); replace hx10 := bcell (undrew hb) hx10; replace hx11 := bcell (undrew hb) hx11; clear hb)
      all_goals
        go_wp2
        go_roundg d
        case measure => omega
        case rel => exact ⟨i + 1, by first | rfl | (rw [q3]; done) | simp, by rw [HE.out], ⟨by have := HD.out; omega⟩, HQ2⟩
end Go.Proofs.YtclploookcjcbaaDoor.PIde
namespace Go.Proofs.YtclploookcjcbaaDoor.PIde
open Go.RowKit Go.Proofs.YtclploookcjcbaaDoorW.PrintWords Go.Proofs.YtclploookcjcbaaDoorW.PrintLast Go.Proofs.YtclploookcjcbaaDoorW.PrintMore Go.Proofs.YtclploookcjcbaaDoorW.FltL
attribute [local go_sem] max2_int min2_int max_two min_two max_three min_three max_four min_four   -- for this text's walks alone
set_option linter.unusedVariables false
set_option linter.unusedSimpArgs false
set_option maxHeartbeats 8000000 in
set_option maxRecDepth 100000 in
theorem hdt_calls (ts : List S78) (L : Nat → Nat) (k : Int) (A : Option Addr) (c : Nat) (w : World) (hr : Kd.C k78 w A ts.length ts) (hk : 0 ≤ k) (hk1 : k ≤ 1000000) (hn : ts.length ≤ 100) (hL : ∀ i, L i ≤ 500) (hx : ∀ i : Nat, i < ts.length → MkT L k (rd_T78 ts (i : Int)) i) :
    Calls Tryd.prog 34 #[.slice A ts.length c, .int .i64 k] w fun e w' => e = .returned (.int .i64 (posL L k ts.length)) ∧ Below w.heap.size w w' := by
  have hpos := posL_in L k hk hL
  have HR := Aside0.mk hr
  have HN := Aside0.mk hn
  have HP := Aside0.mk hpos
  have HL := Aside0.mk hL
  have HX := Aside0.mk hx
  have HK := Aside0.mk hk1
  have HQ := Aside0.mk (Below.refl w.heap.size w)
  clear hr hk hk1 hn hpos hL hx
  have hu := Tryd.underlying78
  have hu2 := Tryd.underlying37
  go_enter Tryd.func34, Tryd.ntmps34
  go_wp2
  go_loopg [1, 5] ts.length (fun d v1 v5 wr => ∃ i : Nat, v5 = .int .i64 (i : Int) ∧ v1 = .int .i64 (posL L k i) ∧ Aside0 (i + d = ts.length) ∧ Aside0 (Below w.heap.size w wr))
  case atStart => exact ⟨0, rfl, rfl, ⟨Nat.zero_add _⟩, HQ⟩
  case round =>
    clear HQ
    obtain ⟨i, rfl, rfl, HD, HQ⟩ := hrel
    have hm := HN.out
    cases gk with
    | zero =>
      have hi : i = ts.length := by have := HD.out; omega
      subst hi
      have c1 : decide ((ts.length : Int) < (ts.length : Int)) = false := decide_eq_false (by omega)
      have c1n : decide (ts.length < ts.length) = false := decide_eq_false (by omega)
      clear hm
      go_wp2
      go_ret
      exact ⟨rfl, HQ.out⟩
    | succ d =>
      have hi : i < ts.length := by have := HD.out; omega
      have c1 : decide ((i : Int) < (ts.length : Int)) = true := decide_eq_true (by omega)
      have c1n : decide (i < ts.length) = true := decide_eq_true hi
      have c2 : decide (0 ≤ (i : Int)) = true := decide_eq_true (by omega)
      have q1 : 0 ≤ (i : Int) := by omega
      have q2 : (i : Int) < (ts.length : Int) := by omega
      have q3 : IntKind.i64.wrap ((i : Int) + 1) = ((i + 1 : Nat) : Int) := by rw [IntWalk.i64_in _ ⟨by omega, by omega⟩]; omega
      obtain ⟨ad, A0, c0, e1, hx0, hx1, hxl, hxc⟩ := at_T78 (Kd.C_below HR.out HQ.out) (i : Int) q1 q2
      cases e1
      simp only [Int.toNat_natCast] at hx0 hx1
      obtain ⟨m1, m2, m3⟩ := HX.out i hi
      have hp1 := HP.out i
      have hL := HL.out i
      have hk1 := HK.out
      obtain ⟨p, hp⟩ : ∃ p : Int, p = posL L k i := ⟨_, rfl⟩
      rw [← hp] at hp1 m2 m3 ⊢
      obtain ⟨p1, hpp⟩ : ∃ q : Int, q = p + 11 * (L i : Int) := ⟨_, rfl⟩
      rw [m2, ← hpp] at hx1
      have hw2 : IntKind.i64.wrap (p1 + 1) = posL L k (i + 1) := by rw [IntWalk.i64_in _ ⟨by omega, by omega⟩]; unfold posL; omega
      have n1 : decide (p1 < 0) = false := decide_eq_false (by omega)
      have HC : Aside0 (∀ w1, Kd.C k88 w1 A0 (rd_T78 ts (i : Int)).f0.length (rd_T78 ts (i : Int)).f0 → Calls Tryd.prog 50 #[.slice A0 (rd_T78 ts (i : Int)).f0.length c0, .int .i64 p] w1 fun e w' => e = .returned (.int .i64 p1) ∧ Below w1.heap.size w1 w') := ⟨fun w1 h => by
        have := hdp_calls _ p A0 c0 w1 h hp1.1 (by rw [m1]; omega) m3
        rw [m1, ← hpp] at this
        rw [m1]
        exact this⟩
      have HXC := Aside0.mk hxc
      clear hxl hxc m1 m2 m3 hp1 hL hk1 hp hpp hm hi
      go_wp2_with (go_at_call 50; refine (HC.out _ HXC.out).mono ?_; rintro e w1 ⟨rfl, hb⟩; have HQ1 := Aside0.mk (below_step HQ.out hb); replace hx1 := bcell hb hx1; clear hb)
      go_roundg d
      case measure => omega
      case rel => exact ⟨i + 1, by first | rfl | (rw [q3]; done) | simp, rfl, ⟨by have := HD.out; omega⟩, HQ1⟩
set_option maxHeartbeats 4000000 in
set_option maxRecDepth 100000 in
theorem hdi_calls (b : Bool) (an : List S60) (ts : List S78) (L : Nat → Nat) (A1 A2 : Option Addr) (c1 c2 : Nat) (w : World) (ha : Kd.C k60 w A1 an.length an) (ht : Kd.C k78 w A2 ts.length ts) (hla : an.length ≤ 1000) (hn : ts.length ≤ 100) (hL : ∀ i, L i ≤ 500) (hxa : ∀ j : Nat, j < an.length → an[j]? = some (mA (1 + 12 * j))) (hxt : ∀ i : Nat, i < ts.length → MkT L (1 + 12 * an.length) (rd_T78 ts (i : Int)) i) :
    Calls Tryd.prog 17 #[.agg #[.bool b, .slice A1 an.length c1, .slice A2 ts.length c2], .int .i64 1] w fun e w' => e = .returned (.int .i64 (posL L (1 + 12 * an.length) ts.length)) ∧ Below w.heap.size w w' := by
  have HBA := Aside0.mk (heap_alloc_new w (.cells #[.bool b, .slice A1 an.length c1, .slice A2 ts.length c2] 39))
  have HB := Aside0.mk (below_alloc (Below.refl w.heap.size w) (.cells #[.bool b, .slice A1 an.length c1, .slice A2 ts.length c2] 39))
  have HC : Aside0 (∀ w1, Kd.C k60 w1 A1 an.length an → Calls Tryd.prog 33 #[.slice A1 an.length c1, .int .i64 1] w1 fun e w' => e = .returned (.int .i64 (1 + 12 * an.length)) ∧ Below w1.heap.size w1 w') := ⟨fun w1 h => hda_calls an 1 A1 c1 w1 h (by decide) (by omega) hxa⟩
  have HD : Aside0 (∀ w1, Kd.C k78 w1 A2 ts.length ts → Calls Tryd.prog 34 #[.slice A2 ts.length c2, .int .i64 (1 + 12 * an.length)] w1 fun e w' => e = .returned (.int .i64 (posL L (1 + 12 * an.length) ts.length)) ∧ Below w1.heap.size w1 w') := ⟨fun w1 h => hdt_calls ts L _ A2 c2 w1 h (by omega) (by omega) hn hL hxt⟩
  have n1 : decide (1 + 12 * (an.length : Int) < 0) = false := decide_eq_false (by omega)
  have n2 : decide (posL L (1 + 12 * (an.length : Int)) ts.length < 0) = false := decide_eq_false (by have := (posL_in L (1 + 12 * (an.length : Int)) (by omega) hL ts.length).1; omega)
  have HA := Aside0.mk (Kd.C_below ha HB.out)
  have HT := Aside0.mk (Kd.C_below ht HB.out)
  generalize 1 + 12 * (an.length : Int) = k1 at *
  generalize posL L k1 ts.length = k2 at *
  clear ha ht hla hn hL hxa hxt
  have hu := Tryd.underlying39
  go_enter Tryd.func17, Tryd.ntmps17
  go_wp2_with (first | (go_at_call 33; refine (HC.out _ HA.out).mono ?_; rintro e w1 ⟨rfl, hb⟩; obtain ⟨y0, y1, y2⟩ := k3 (blk_below HBA.out hb); have HT1 := Aside0.mk (Kd.C_below HT.out hb); have HB1 := Aside0.mk (below_step HB.out hb); clear hb) | (go_at_call 34; refine (HD.out _ HT1.out).mono ?_; rintro e w2 ⟨rfl, hb⟩; have HB2 := Aside0.mk (below_step HB1.out hb); clear hb))
  all_goals
    go_ret
    exact ⟨rfl, HB2.out⟩
end Go.Proofs.YtclploookcjcbaaDoor.PIde
namespace Go.Proofs.YtclploookcjcbaaDoor.PIde
open Go.RowKit Go.Proofs.YtclploookcjcbaaDoorW.PrintWords Go.Proofs.YtclploookcjcbaaDoorW.PrintLast Go.Proofs.YtclploookcjcbaaDoorW.PrintMore
attribute [local go_sem] max2_int min2_int max_two min_two max_three min_three max_four min_four   -- for this text's walks alone
set_option linter.unusedVariables false
set_option linter.unusedSimpArgs false
/-- The law's value and act, as the program's. -/
def cv (v : S24) : S29 := ⟨v.f0, v.f1, v.f2, v.f3, v.f4⟩
def cx (x : S26) : S31 := ⟨x.f0, x.f1, x.f2, x.f3, cv x.f4, cv x.f5⟩
theorem ret31 {fn : Func} {p : Tmp} (h : fn.results = #[.cell p 31]) {tmps : Array Value} {W : World} {g : Nat} {u0 u1 u2 u3 u4 u5 u6 u7 u8 u9 u10 u11 u12 u13 : Value} (hp : tmps.getD p undef = .pointer (some ⟨g, 0, none⟩)) (HF : W.heap[g]? = some (.cells #[u0, u1, u2, u3, u4, u5, u6, u7, u8, u9, u10, u11, u12, u13] 31 (0, 0))) :
    (results fn tmps).run Tryd.prog W = .ok (.agg #[u0, u1, u2, u3, u4, u5, u6, u7, u8, u9, u10, u11, u12, u13]) W := results_cell_row h _ _ g 31 #[u0, u1, u2, u3, u4, u5, u6, u7, u8, u9, u10, u11, u12, u13] (0, 0) _ hp HF Tryd.underlying31 rfl (by kernel_rfl)
theorem set14 {w : World} {g : Nat} {t : TypeId} {x0 x1 x2 x3 x4 x5 x6 x7 x8 x9 x10 x11 x12 x13 u0 u1 u2 u3 u4 u5 u6 u7 u8 u9 u10 u11 u12 u13 : Value} (h : w.heap[g]? = some (.cells #[x0, x1, x2, x3, x4, x5, x6, x7, x8, x9, x10, x11, x12, x13] t (0, 0))) :
    ((((((((((((((w.setCell ⟨g, 0, none⟩ u0).setCell ⟨g, 1, none⟩ u1).setCell ⟨g, 2, none⟩ u2).setCell ⟨g, 3, none⟩ u3).setCell ⟨g, 4, none⟩ u4).setCell ⟨g, 5, none⟩ u5).setCell ⟨g, 6, none⟩ u6).setCell ⟨g, 7, none⟩ u7).setCell ⟨g, 8, none⟩ u8).setCell ⟨g, 9, none⟩ u9).setCell ⟨g, 10, none⟩ u10).setCell ⟨g, 11, none⟩ u11).setCell ⟨g, 12, none⟩ u12).setCell ⟨g, 13, none⟩ u13).heap[g]? = some (.cells #[u0, u1, u2, u3, u4, u5, u6, u7, u8, u9, u10, u11, u12, u13] t (0, 0)) := by
  simpa using (blk_set (blk_set (blk_set (blk_set (blk_set (blk_set (blk_set (blk_set (blk_set (blk_set (blk_set (blk_set (blk_set (blk_set h 0 _) 1 _) 2 _) 3 _) 4 _) 5 _) 6 _) 7 _) 8 _) 9 _) 10 _) 11 _) 12 _) 13 _)
set_option maxHeartbeats 2000000 in
set_option maxRecDepth 100000 in
theorem toV_calls (a0 a1 : Int) (a2 : Nat) (a3 : ByteArray) (a4 : Int) (w : World) : Calls Tryd.prog 21 #[.agg #[.int .i64 a0, .int .i64 a1, .float .f64 a2, .string a3, .int .i64 a4]] w fun e w' => e = .returned (.agg #[.int .i64 a0, .int .i64 a1, .float .f64 a2, .string a3, .int .i64 a4]) ∧ Below w.heap.size w w' := by
  have hu := Tryd.underlying29
  have hu2 := Tryd.underlying24
  go_enter Tryd.func21, Tryd.ntmps21
  go_wp2
  exact bodyPost_ret (ret29 rfl rfl (blk_alloc (heap_alloc2_new w _ _) _)) rfl ⟨rfl, below_alloc (below_alloc (below_alloc (Below.refl _ _) _) _) _⟩
set_option maxHeartbeats 4000000 in
set_option maxRecDepth 100000 in
theorem toX_calls (a0 a1 a2 a3 a4 a5 : Int) (a6 : Nat) (a7 : ByteArray) (a8 a9 a10 : Int) (a11 : Nat) (a12 : ByteArray) (a13 : Int) (w : World) :
    Calls Tryd.prog 7 #[.agg #[.int .i64 a0, .int .i64 a1, .int .i64 a2, .int .i64 a3, .int .i64 a4, .int .i64 a5, .float .f64 a6, .string a7, .int .i64 a8, .int .i64 a9, .int .i64 a10, .float .f64 a11, .string a12, .int .i64 a13]] w fun e w' => e = .returned (.agg #[.int .i64 a0, .int .i64 a1, .int .i64 a2, .int .i64 a3, .int .i64 a4, .int .i64 a5, .float .f64 a6, .string a7, .int .i64 a8, .int .i64 a9, .int .i64 a10, .float .f64 a11, .string a12, .int .i64 a13]) ∧ Below w.heap.size w w' := by
  have HB := Aside0.mk (below_alloc (below_alloc (below_alloc (Below.refl w.heap.size w) (.cells #[.int .i64 a0, .int .i64 a1, .int .i64 a2, .int .i64 a3, .int .i64 a4, .int .i64 a5, .float .f64 a6, .string a7, .int .i64 a8, .int .i64 a9, .int .i64 a10, .float .f64 a11, .string a12, .int .i64 a13] 26)) (.cells #[.int .i64 0, .int .i64 0, .int .i64 0, .int .i64 0, .int .i64 0, .int .i64 0, .float .f64 0, .string ⟨#[]⟩, .int .i64 0, .int .i64 0, .int .i64 0, .float .f64 0, .string ⟨#[]⟩, .int .i64 0] 31)) (.cells #[.int .i64 a0, .int .i64 a1, .int .i64 a2, .int .i64 a3, .int .i64 0, .int .i64 0, .float .f64 0, .string ⟨#[]⟩, .int .i64 0, .int .i64 0, .int .i64 0, .float .f64 0, .string ⟨#[]⟩, .int .i64 0] 31))
  have BX := Aside0.mk (blk_alloc (heap_alloc2_old w (.cells #[.int .i64 a0, .int .i64 a1, .int .i64 a2, .int .i64 a3, .int .i64 a4, .int .i64 a5, .float .f64 a6, .string a7, .int .i64 a8, .int .i64 a9, .int .i64 a10, .float .f64 a11, .string a12, .int .i64 a13] 26) (.cells #[.int .i64 0, .int .i64 0, .int .i64 0, .int .i64 0, .int .i64 0, .int .i64 0, .float .f64 0, .string ⟨#[]⟩, .int .i64 0, .int .i64 0, .int .i64 0, .float .f64 0, .string ⟨#[]⟩, .int .i64 0] 31)) (.cells #[.int .i64 a0, .int .i64 a1, .int .i64 a2, .int .i64 a3, .int .i64 0, .int .i64 0, .float .f64 0, .string ⟨#[]⟩, .int .i64 0, .int .i64 0, .int .i64 0, .float .f64 0, .string ⟨#[]⟩, .int .i64 0] 31))
  have BZ := Aside0.mk (blk_alloc (heap_alloc2_new w (.cells #[.int .i64 a0, .int .i64 a1, .int .i64 a2, .int .i64 a3, .int .i64 a4, .int .i64 a5, .float .f64 a6, .string a7, .int .i64 a8, .int .i64 a9, .int .i64 a10, .float .f64 a11, .string a12, .int .i64 a13] 26) (.cells #[.int .i64 0, .int .i64 0, .int .i64 0, .int .i64 0, .int .i64 0, .int .i64 0, .float .f64 0, .string ⟨#[]⟩, .int .i64 0, .int .i64 0, .int .i64 0, .float .f64 0, .string ⟨#[]⟩, .int .i64 0] 31)) (.cells #[.int .i64 a0, .int .i64 a1, .int .i64 a2, .int .i64 a3, .int .i64 0, .int .i64 0, .float .f64 0, .string ⟨#[]⟩, .int .i64 0, .int .i64 0, .int .i64 0, .float .f64 0, .string ⟨#[]⟩, .int .i64 0] 31))
  have BO := Aside0.mk (show (((w.alloc (.cells #[.int .i64 a0, .int .i64 a1, .int .i64 a2, .int .i64 a3, .int .i64 a4, .int .i64 a5, .float .f64 a6, .string a7, .int .i64 a8, .int .i64 a9, .int .i64 a10, .float .f64 a11, .string a12, .int .i64 a13] 26)).alloc (.cells #[.int .i64 0, .int .i64 0, .int .i64 0, .int .i64 0, .int .i64 0, .int .i64 0, .float .f64 0, .string ⟨#[]⟩, .int .i64 0, .int .i64 0, .int .i64 0, .float .f64 0, .string ⟨#[]⟩, .int .i64 0] 31)).alloc (.cells #[.int .i64 a0, .int .i64 a1, .int .i64 a2, .int .i64 a3, .int .i64 0, .int .i64 0, .float .f64 0, .string ⟨#[]⟩, .int .i64 0, .int .i64 0, .int .i64 0, .float .f64 0, .string ⟨#[]⟩, .int .i64 0] 31)).heap[w.heap.size + 1 + 1]? = some (.cells #[.int .i64 a0, .int .i64 a1, .int .i64 a2, .int .i64 a3, .int .i64 0, .int .i64 0, .float .f64 0, .string ⟨#[]⟩, .int .i64 0, .int .i64 0, .int .i64 0, .float .f64 0, .string ⟨#[]⟩, .int .i64 0] 31) by simpa using heap_alloc_new ((w.alloc (.cells #[.int .i64 a0, .int .i64 a1, .int .i64 a2, .int .i64 a3, .int .i64 a4, .int .i64 a5, .float .f64 a6, .string a7, .int .i64 a8, .int .i64 a9, .int .i64 a10, .float .f64 a11, .string a12, .int .i64 a13] 26)).alloc (.cells #[.int .i64 0, .int .i64 0, .int .i64 0, .int .i64 0, .int .i64 0, .int .i64 0, .float .f64 0, .string ⟨#[]⟩, .int .i64 0, .int .i64 0, .int .i64 0, .float .f64 0, .string ⟨#[]⟩, .int .i64 0] 31)) (.cells #[.int .i64 a0, .int .i64 a1, .int .i64 a2, .int .i64 a3, .int .i64 0, .int .i64 0, .float .f64 0, .string ⟨#[]⟩, .int .i64 0, .int .i64 0, .int .i64 0, .float .f64 0, .string ⟨#[]⟩, .int .i64 0] 31))
  have hu := Tryd.underlying29
  have hu2 := Tryd.underlying24
  have hu3 := Tryd.underlying31
  have hu4 := Tryd.underlying26
  have n1 : w.heap.size ≠ w.heap.size + 1 + 1 := by omega
  have n2 : w.heap.size + 1 ≠ w.heap.size + 1 + 1 := by omega
  have n3 : w.heap.size ≤ w.heap.size + 1 + 1 := by omega
  have n4 : w.heap.size ≤ w.heap.size + 1 := by omega
  go_enter Tryd.func7, Tryd.ntmps7
  go_wp2_with (first | (go_at_call 21; have hb0 := HB.out; refine (toV_calls a4 a5 a6 a7 a8 _).mono ?_; rintro e w1 ⟨rfl, hb⟩; have HB1 := Aside0.mk (below_step HB.out hb); have BX1 := Aside0.mk (blk_below BX.out hb); have BZ1 := Aside0.mk (blk_below BZ.out hb); have BO1 := Aside0.mk (blk_below BO.out hb); clear hb hb0 HB BX BZ BO; obtain ⟨xz0, xz1, xz2, xz3, xz4, xz5, xz6, xz7, xz8, xz9, xz10, xz11, xz12, xz13⟩ := c14 BX1.out; obtain ⟨oz0, oz1, oz2, oz3, oz4, oz5, oz6, oz7, oz8, oz9, oz10, oz11, oz12, oz13⟩ := c14 BO1.out; have of := blk_frozen BO1.out; have of4 := of 4; have of5 := of 5; have of6 := of 6; have of7 := of 7; have of8 := of 8; clear of; have lt1 := blk_lt BO1.out) | (go_at_call 21; refine (toV_calls a9 a10 a11 a12 a13 _).mono ?_; rintro e w2 ⟨rfl, hb⟩; have h1 := (blk_set (blk_set (blk_set (blk_set (blk_set BO1.out 4 (.int .i64 a4)) 5 (.int .i64 a5)) 6 (.float .f64 a6)) 7 (.string a7)) 8 (.int .i64 a8)); simp only [List.setIfInBounds_toArray, List.set_cons_zero, List.set_cons_succ] at h1; have BO2 := Aside0.mk (blk_below h1 hb); have BZ2 := Aside0.mk (blk_below ((Go.Proofs.YtclploookcjcbaaDoorW.PrintWords.blk_far (Go.Proofs.YtclploookcjcbaaDoorW.PrintWords.blk_far (Go.Proofs.YtclploookcjcbaaDoorW.PrintWords.blk_far (Go.Proofs.YtclploookcjcbaaDoorW.PrintWords.blk_far (Go.Proofs.YtclploookcjcbaaDoorW.PrintWords.blk_far BZ1.out n2 _) n2 _) n2 _) n2 _) n2 _)) hb); have HB2 := Aside0.mk (below_step (((((HB1.out.setCell n3 _).setCell n3 _).setCell n3 _).setCell n3 _).setCell n3 _) hb); clear hb h1 HB1 BX1 BZ1 BO1 xz0 xz1 xz2 xz3 xz4 xz5 xz6 xz7 xz8 xz9 xz10 xz11 xz12 xz13 oz0 oz1 oz2 oz3 oz4 oz5 oz6 oz7 oz8 oz9 oz10 oz11 oz12 oz13 of4 of5 of6 of7 of8; obtain ⟨oz0, oz1, oz2, oz3, oz4, oz5, oz6, oz7, oz8, oz9, oz10, oz11, oz12, oz13⟩ := c14 BO2.out; obtain ⟨zz0, zz1, zz2, zz3, zz4, zz5, zz6, zz7, zz8, zz9, zz10, zz11, zz12, zz13⟩ := c14 BZ2.out; have of := blk_frozen BO2.out; have zf := blk_frozen BZ2.out; have of9 := of 9; have of10 := of 10; have of11 := of 11; have of12 := of 12; have of13 := of 13; have zf0 := zf 0; have zf1 := zf 1; have zf2 := zf 2; have zf3 := zf 3; have zf4 := zf 4; have zf5 := zf 5; have zf6 := zf 6; have zf7 := zf 7; have zf8 := zf 8; have zf9 := zf 9; have zf10 := zf 10; have zf11 := zf 11; have zf12 := zf 12; have zf13 := zf 13; clear of zf; have lt2 := blk_lt BO2.out; have lt3 := blk_lt BZ2.out))
  refine bodyPost_ret (ret31 rfl rfl (set14 (x0 := .int .i64 0) (x1 := .int .i64 0) (x2 := .int .i64 0) (x3 := .int .i64 0) (x4 := .int .i64 0) (x5 := .int .i64 0) (x6 := .float .f64 0) (x7 := .string ⟨#[]⟩) (x8 := .int .i64 0) (x9 := .int .i64 0) (x10 := .int .i64 0) (x11 := .float .f64 0) (x12 := .string ⟨#[]⟩) (x13 := .int .i64 0) ?_)) rfl ⟨rfl, ?_⟩
  · iterate 5 refine Go.Proofs.YtclploookcjcbaaDoorW.PrintWords.blk_far ?_ n2 _
    exact BZ2.out
  · iterate 14 refine below_set ?_ n4
    iterate 5 refine below_set ?_ n3
    exact HB2.out
end Go.Proofs.YtclploookcjcbaaDoor.PIde
namespace Go.Proofs.YtclploookcjcbaaDoor.PIde
open Go.RowKit Go.Proofs.YtclploookcjcbaaDoorW.PrintWords Go.Proofs.YtclploookcjcbaaDoorW.PrintLast Go.Proofs.YtclploookcjcbaaDoorW.PrintMore
attribute [local go_sem] max2_int min2_int max_two min_two max_three min_three max_four min_four   -- for this text's walks alone
set_option linter.unusedVariables false
set_option linter.unusedSimpArgs false
theorem put31 {W : World} {base g n cap i : Nat} {ok : Nat → Prop} {ys : List S31} {b0 b1 b2 b3 b4 b5 : Int} {b6 : Nat} {b7 : ByteArray} {b8 b9 b10 : Int} {b11 : Nat} {b12 : ByteArray} {b13 : Int} (a0 a1 a2 a3 a4 a5 : Int) (a6 : Nat) (a7 : ByteArray) (a8 a9 a10 : Int) (a11 : Nat) (a12 : ByteArray) (a13 : Int) (h : Kd.R k31 31 W base ok (.slice (some ⟨g, 0, none⟩) n cap) (ys.set i (⟨b0, b1, b2, b3, ⟨b4, b5, b6, b7, b8⟩, ⟨b9, b10, b11, b12, b13⟩⟩ : S31))) (hi : i < n) :
    Kd.R k31 31 ((((((((((((((W.setCell ⟨g, i * 14, none⟩ (.int .i64 a0)).setCell ⟨g, i * 14 + 1, none⟩ (.int .i64 a1)).setCell ⟨g, i * 14 + 2, none⟩ (.int .i64 a2)).setCell ⟨g, i * 14 + 3, none⟩ (.int .i64 a3)).setCell ⟨g, i * 14 + 4, none⟩ (.int .i64 a4)).setCell ⟨g, i * 14 + 5, none⟩ (.int .i64 a5)).setCell ⟨g, i * 14 + 6, none⟩ (.float .f64 a6)).setCell ⟨g, i * 14 + 7, none⟩ (.string a7)).setCell ⟨g, i * 14 + 8, none⟩ (.int .i64 a8)).setCell ⟨g, i * 14 + 9, none⟩ (.int .i64 a9)).setCell ⟨g, i * 14 + 10, none⟩ (.int .i64 a10)).setCell ⟨g, i * 14 + 11, none⟩ (.float .f64 a11)).setCell ⟨g, i * 14 + 12, none⟩ (.string a12)).setCell ⟨g, i * 14 + 13, none⟩ (.int .i64 a13)) base ok (.slice (some ⟨g, 0, none⟩) n cap) (ys.set i (⟨a0, a1, a2, a3, ⟨a4, a5, a6, a7, a8⟩, ⟨a9, a10, a11, a12, a13⟩⟩ : S31)) := by
  have h1 := (row_set (s := 14) o31 m31 rfl (x' := (⟨a0, a1, a2, a3, ⟨a4, a5, a6, a7, a8⟩, ⟨a9, a10, a11, a12, a13⟩⟩ : S31)) (row_set (s := 14) o31 m31 rfl (x' := (⟨a0, a1, a2, a3, ⟨a4, a5, a6, a7, a8⟩, ⟨a9, a10, a11, a12, b13⟩⟩ : S31)) (row_set (s := 14) o31 m31 rfl (x' := (⟨a0, a1, a2, a3, ⟨a4, a5, a6, a7, a8⟩, ⟨a9, a10, a11, b12, b13⟩⟩ : S31)) (row_set (s := 14) o31 m31 rfl (x' := (⟨a0, a1, a2, a3, ⟨a4, a5, a6, a7, a8⟩, ⟨a9, a10, b11, b12, b13⟩⟩ : S31)) (row_set (s := 14) o31 m31 rfl (x' := (⟨a0, a1, a2, a3, ⟨a4, a5, a6, a7, a8⟩, ⟨a9, b10, b11, b12, b13⟩⟩ : S31)) (row_set (s := 14) o31 m31 rfl (x' := (⟨a0, a1, a2, a3, ⟨a4, a5, a6, a7, a8⟩, ⟨b9, b10, b11, b12, b13⟩⟩ : S31)) (row_set (s := 14) o31 m31 rfl (x' := (⟨a0, a1, a2, a3, ⟨a4, a5, a6, a7, b8⟩, ⟨b9, b10, b11, b12, b13⟩⟩ : S31)) (row_set (s := 14) o31 m31 rfl (x' := (⟨a0, a1, a2, a3, ⟨a4, a5, a6, b7, b8⟩, ⟨b9, b10, b11, b12, b13⟩⟩ : S31)) (row_set (s := 14) o31 m31 rfl (x' := (⟨a0, a1, a2, a3, ⟨a4, a5, b6, b7, b8⟩, ⟨b9, b10, b11, b12, b13⟩⟩ : S31)) (row_set (s := 14) o31 m31 rfl (x' := (⟨a0, a1, a2, a3, ⟨a4, b5, b6, b7, b8⟩, ⟨b9, b10, b11, b12, b13⟩⟩ : S31)) (row_set (s := 14) o31 m31 rfl (x' := (⟨a0, a1, a2, a3, ⟨b4, b5, b6, b7, b8⟩, ⟨b9, b10, b11, b12, b13⟩⟩ : S31)) (row_set (s := 14) o31 m31 rfl (x' := (⟨a0, a1, a2, b3, ⟨b4, b5, b6, b7, b8⟩, ⟨b9, b10, b11, b12, b13⟩⟩ : S31)) (row_set (s := 14) o31 m31 rfl (x' := (⟨a0, a1, b2, b3, ⟨b4, b5, b6, b7, b8⟩, ⟨b9, b10, b11, b12, b13⟩⟩ : S31)) (row_set (s := 14) o31 m31 rfl (x' := (⟨a0, b1, b2, b3, ⟨b4, b5, b6, b7, b8⟩, ⟨b9, b10, b11, b12, b13⟩⟩ : S31)) h hi 0 (.int .i64 a0) (by decide) rfl) hi 1 (.int .i64 a1) (by decide) rfl) hi 2 (.int .i64 a2) (by decide) rfl) hi 3 (.int .i64 a3) (by decide) rfl) hi 4 (.int .i64 a4) (by decide) rfl) hi 5 (.int .i64 a5) (by decide) rfl) hi 6 (.float .f64 a6) (by decide) rfl) hi 7 (.string a7) (by decide) rfl) hi 8 (.int .i64 a8) (by decide) rfl) hi 9 (.int .i64 a9) (by decide) rfl) hi 10 (.int .i64 a10) (by decide) rfl) hi 11 (.float .f64 a11) (by decide) rfl) hi 12 (.string a12) (by decide) rfl) hi 13 (.int .i64 a13) (by decide) rfl)
  simpa only [Nat.add_zero] using h1
set_option maxHeartbeats 8000000 in
set_option maxRecDepth 100000 in
theorem toXS_calls (xs : List S26) (A : Option Addr) (c : Nat) (w : World) (hr : Kd.C k26 w A xs.length xs) (hn : xs.length ≤ 1048576) :
    Calls Tryd.prog 11 #[.slice A xs.length c] w fun e w' => ∃ v, e = .returned v ∧ Kd.R k31 31 w' w.heap.size tt v (xs.map cx) ∧ Below w.heap.size w w' := by
  have HR := Aside0.mk hr
  have HN := Aside0.mk hn
  have p1 : decide (0 ≤ (xs.length : Int)) = true := decide_eq_true (by omega)
  have p2 : decide (((xs.length : Int)).toNat ≤ 2199023255552) = true := decide_eq_true (by omega)
  clear hr hn
  have hu := Tryd.underlying26
  have hu2 := Tryd.underlying31
  go_enter Tryd.func11, Tryd.ntmps11
  go_wp2_with ((with_reducible refine gate_dst (N := 7) rfl ?_); refine Kd.R_make k31 _ 31 rfl (N := 7) rfl 41 _ _ rfl (xs.length : Int) rfl rfl Tryd.underlying41 (.agg #[.int .i64 0, .int .i64 0, .int .i64 0, .int .i64 0, .int .i64 0, .int .i64 0, .float .f64 0, .string ⟨#[]⟩, .int .i64 0, .int .i64 0, .int .i64 0, .float .f64 0, .string ⟨#[]⟩, .int .i64 0]) 128 info31 rfl (by decide) (by omega) z31 (ok := tt) (okp := fun _ => False) (k31_mkM _ _ _ z31) (fun _ hk => hk.elim) trivial (of_decide_eq_true p1) (Nat.le_trans (Nat.mul_le_mul_right _ (of_decide_eq_true p2 : (xs.length : Int).toNat ≤ 2199023255552)) (by omega)) (Below.refl _ _) (Nat.le_refl _) ?_; intro v1 w1 hr hb _ _; rw [Int.toNat_natCast] at hr; have HO := Aside0.mk hr; have HB := Aside0.mk hb; clear hr hb)
  go_loopg [4] xs.length (fun d v4 wr => ∃ i : Nat, v4 = .int .i64 (i : Int) ∧ Aside0 (i + d = xs.length) ∧ Aside0 (∃ ys, ys.length = xs.length ∧ (∀ j : Nat, j < i → ys[j]? = (xs.map cx)[j]?) ∧ Kd.R k31 31 wr w.heap.size tt v1 ys) ∧ Aside0 (Below w.heap.size w wr))
  case atStart => exact ⟨0, rfl, ⟨Nat.zero_add _⟩, ⟨_, by simp, fun j hj => absurd hj (Nat.not_lt_zero _), HO.out⟩, HB⟩
  case round =>
    clear HO HB p1 p2
    obtain ⟨i, rfl, HD, HO, HB⟩ := hrel
    have hm := HN.out
    cases gk with
    | zero =>
      have hi : i = xs.length := by have := HD.out; omega
      subst hi
      have c1 : decide ((xs.length : Int) < (xs.length : Int)) = false := decide_eq_false (by omega)
      have c1n : decide (xs.length < xs.length) = false := decide_eq_false (by omega)
      clear hm
      go_wp2
      go_ret
      obtain ⟨ys, hyl, hyy, hyR⟩ := HO.out
      have : ys = xs.map cx := List.ext_getElem? (fun j => by
        by_cases hj : j < xs.length
        · exact hyy j hj
        · rw [List.getElem?_eq_none (by omega), List.getElem?_eq_none (by rw [List.length_map]; omega)])
      exact ⟨_, rfl, this ▸ hyR, HB.out⟩
    | succ d =>
      have hi : i < xs.length := by have := HD.out; omega
      have c1 : decide ((i : Int) < (xs.length : Int)) = true := decide_eq_true (by omega)
      have c1n : decide (i < xs.length) = true := decide_eq_true hi
      have c2 : decide (0 ≤ (i : Int)) = true := decide_eq_true (by omega)
      obtain ⟨ad, e1, hx0, hx1, hx2, hx3, hx4, hx5, hx6, hx7, hx8, hx9, hx10, hx11, hx12, hx13⟩ := at_T26 (Kd.C_below HR.out HB.out) (i : Int) (by omega) (by omega)
      cases e1
      simp only [Int.toNat_natCast] at hx0 hx1 hx2 hx3 hx4 hx5 hx6 hx7 hx8 hx9 hx10 hx11 hx12 hx13
      have q1 : 0 ≤ (i : Int) := by omega
      have q2 : (i : Int) < (xs.length : Int) := by omega
      have q3 : IntKind.i64.wrap ((i : Int) + 1) = ((i + 1 : Nat) : Int) := by rw [IntWalk.i64_in _ ⟨by omega, by omega⟩]; omega
      have HC : Aside0 (∀ w1, Calls Tryd.prog 7 #[.agg #[.int .i64 (rd_T26 xs (i : Int)).f0, .int .i64 (rd_T26 xs (i : Int)).f1, .int .i64 (rd_T26 xs (i : Int)).f2, .int .i64 (rd_T26 xs (i : Int)).f3, .int .i64 (rd_T26 xs (i : Int)).f4.f0, .int .i64 (rd_T26 xs (i : Int)).f4.f1, .float .f64 (rd_T26 xs (i : Int)).f4.f2, .string (rd_T26 xs (i : Int)).f4.f3, .int .i64 (rd_T26 xs (i : Int)).f4.f4, .int .i64 (rd_T26 xs (i : Int)).f5.f0, .int .i64 (rd_T26 xs (i : Int)).f5.f1, .float .f64 (rd_T26 xs (i : Int)).f5.f2, .string (rd_T26 xs (i : Int)).f5.f3, .int .i64 (rd_T26 xs (i : Int)).f5.f4]] w1 fun e w' => e = .returned (.agg #[.int .i64 (rd_T26 xs (i : Int)).f0, .int .i64 (rd_T26 xs (i : Int)).f1, .int .i64 (rd_T26 xs (i : Int)).f2, .int .i64 (rd_T26 xs (i : Int)).f3, .int .i64 (rd_T26 xs (i : Int)).f4.f0, .int .i64 (rd_T26 xs (i : Int)).f4.f1, .float .f64 (rd_T26 xs (i : Int)).f4.f2, .string (rd_T26 xs (i : Int)).f4.f3, .int .i64 (rd_T26 xs (i : Int)).f4.f4, .int .i64 (rd_T26 xs (i : Int)).f5.f0, .int .i64 (rd_T26 xs (i : Int)).f5.f1, .float .f64 (rd_T26 xs (i : Int)).f5.f2, .string (rd_T26 xs (i : Int)).f5.f3, .int .i64 (rd_T26 xs (i : Int)).f5.f4]) ∧ Below w1.heap.size w1 w') := ⟨fun w1 => toX_calls (rd_T26 xs (i : Int)).f0 (rd_T26 xs (i : Int)).f1 (rd_T26 xs (i : Int)).f2 (rd_T26 xs (i : Int)).f3 (rd_T26 xs (i : Int)).f4.f0 (rd_T26 xs (i : Int)).f4.f1 (rd_T26 xs (i : Int)).f4.f2 (rd_T26 xs (i : Int)).f4.f3 (rd_T26 xs (i : Int)).f4.f4 (rd_T26 xs (i : Int)).f5.f0 (rd_T26 xs (i : Int)).f5.f1 (rd_T26 xs (i : Int)).f5.f2 (rd_T26 xs (i : Int)).f5.f3 (rd_T26 xs (i : Int)).f5.f4 w1⟩
      have HE : Aside0 (cx (rd_T26 xs (i : Int)) = (⟨(rd_T26 xs (i : Int)).f0, (rd_T26 xs (i : Int)).f1, (rd_T26 xs (i : Int)).f2, (rd_T26 xs (i : Int)).f3, ⟨(rd_T26 xs (i : Int)).f4.f0, (rd_T26 xs (i : Int)).f4.f1, (rd_T26 xs (i : Int)).f4.f2, (rd_T26 xs (i : Int)).f4.f3, (rd_T26 xs (i : Int)).f4.f4⟩, ⟨(rd_T26 xs (i : Int)).f5.f0, (rd_T26 xs (i : Int)).f5.f1, (rd_T26 xs (i : Int)).f5.f2, (rd_T26 xs (i : Int)).f5.f3, (rd_T26 xs (i : Int)).f5.f4⟩⟩ : S31) ∧ (xs.map cx)[i]? = some (cx (rd_T26 xs (i : Int)))) := ⟨⟨rfl, by rw [List.getElem?_map, List.getElem?_eq_getElem hi]; simp [rd_T26, List.getD_eq_getElem?_getD, hi]⟩⟩
      obtain ⟨ys, hyl, hyy, hyR⟩ := HO.out
      obtain ⟨g, c', he, hbg, -, -⟩ := Kd.R_form hyR (by omega)
      rw [hyl] at he
      subst he
      have HI := Aside0.mk hi
      have HYL := Aside0.mk (And.intro hyl hyy)
      have HBG := Aside0.mk hbg
      have hyR1 := row_open hyR hi z31
      generalize ys.getD i z31 = xx at hyR1
      obtain ⟨b0, b1, b2, b3, ⟨b4, b5, b6, b7, b8⟩, ⟨b9, b10, b11, b12, b13⟩⟩ := xx
      have HO1 := Aside0.mk hyR1
      clear hyR hyR1 hyl hyy hbg HO hm hi
      go_wp2_with (go_at_call 7; refine (HC.out _).mono ?_; rintro e w2 ⟨rfl, hb⟩; have HO2 := Aside0.mk (Kd.R_below (w1 := w2) HO1.out hb); have HB2 := Aside0.mk (below_step HB.out hb); clear hb HO1 hx0 hx1 hx2 hx3 hx4 hx5 hx6 hx7 hx8 hx9 hx10 hx11 hx12 hx13; obtain ⟨hcc, hff⟩ := row_cell (s := 14) o31 rfl HO2.out HI.out; have hy0 := hcc 0 _ rfl; have hf0 := hff 0; have hy1 := hcc 1 _ rfl; have hf1 := hff 1; have hy2 := hcc 2 _ rfl; have hf2 := hff 2; have hy3 := hcc 3 _ rfl; have hf3 := hff 3; have hy4 := hcc 4 _ rfl; have hf4 := hff 4; have hy5 := hcc 5 _ rfl; have hf5 := hff 5; have hy6 := hcc 6 _ rfl; have hf6 := hff 6; have hy7 := hcc 7 _ rfl; have hf7 := hff 7; have hy8 := hcc 8 _ rfl; have hf8 := hff 8; have hy9 := hcc 9 _ rfl; have hf9 := hff 9; have hy10 := hcc 10 _ rfl; have hf10 := hff 10; have hy11 := hcc 11 _ rfl; have hf11 := hff 11; have hy12 := hcc 12 _ rfl; have hf12 := hff 12; have hy13 := hcc 13 _ rfl; have hf13 := hff 13; clear hcc hff; simp only [Nat.add_zero] at hy0 hf0)
      go_roundg d
      case measure => omega
      case rel =>
        refine ⟨i + 1, by first | rfl | (rw [q3]; done) | simp, ⟨by have := HD.out; omega⟩, ⟨_, by rw [List.length_set]; exact HYL.out.1, fun j hj => ?_, put31 (rd_T26 xs (i : Int)).f0 (rd_T26 xs (i : Int)).f1 (rd_T26 xs (i : Int)).f2 (rd_T26 xs (i : Int)).f3 (rd_T26 xs (i : Int)).f4.f0 (rd_T26 xs (i : Int)).f4.f1 (rd_T26 xs (i : Int)).f4.f2 (rd_T26 xs (i : Int)).f4.f3 (rd_T26 xs (i : Int)).f4.f4 (rd_T26 xs (i : Int)).f5.f0 (rd_T26 xs (i : Int)).f5.f1 (rd_T26 xs (i : Int)).f5.f2 (rd_T26 xs (i : Int)).f5.f3 (rd_T26 xs (i : Int)).f5.f4 HO2.out HI.out⟩, ⟨?_⟩⟩
        · by_cases hji : j = i
          · subst hji
            rw [List.getElem?_set_self (by rw [HYL.out.1]; exact HI.out), HE.out.2, HE.out.1]
          · rw [List.getElem?_set_ne (fun e => hji e.symm)]
            exact HYL.out.2 j (by omega)
        · iterate 14 refine below_set ?_ HBG.out
          exact HB2.out
/-- A call that answers some whole number, and only makes memory. -/
def SomeInt (w : World) (e : Ending) (w' : World) : Prop := (∃ r : Int, e = .returned (.int .i64 r)) ∧ Below w.heap.size w w'
set_option maxHeartbeats 2000000 in
set_option maxRecDepth 100000 in
theorem szV_calls (a0 a1 : Int) (a2 : Nat) (a3 : ByteArray) (a4 l : Int) (w : World) : Calls Tryd.prog 18 #[.agg #[.int .i64 a0, .int .i64 a1, .float .f64 a2, .string a3, .int .i64 a4], .int .i64 l] w (SomeInt w) := by
  have hu := Tryd.underlying24
  go_enter Tryd.func18, Tryd.ntmps18
  go_wp2
  all_goals
    go_ret
    exact ⟨⟨_, rfl⟩, below_alloc (Below.refl _ _) _⟩
set_option maxHeartbeats 4000000 in
set_option maxRecDepth 100000 in
theorem szX_calls (a0 a1 a2 a3 a4 a5 : Int) (a6 : Nat) (a7 : ByteArray) (a8 a9 a10 : Int) (a11 : Nat) (a12 : ByteArray) (a13 : Int) (l : Int) (w : World) : Calls Tryd.prog 5 #[.agg #[.int .i64 a0, .int .i64 a1, .int .i64 a2, .int .i64 a3, .int .i64 a4, .int .i64 a5, .float .f64 a6, .string a7, .int .i64 a8, .int .i64 a9, .int .i64 a10, .float .f64 a11, .string a12, .int .i64 a13], .int .i64 l] w (SomeInt w) := by
  have HB := Aside0.mk (below_alloc (Below.refl w.heap.size w) (.cells #[.int .i64 a0, .int .i64 a1, .int .i64 a2, .int .i64 a3, .int .i64 a4, .int .i64 a5, .float .f64 a6, .string a7, .int .i64 a8, .int .i64 a9, .int .i64 a10, .float .f64 a11, .string a12, .int .i64 a13] 26))
  have BX := Aside0.mk (heap_alloc_new w (.cells #[.int .i64 a0, .int .i64 a1, .int .i64 a2, .int .i64 a3, .int .i64 a4, .int .i64 a5, .float .f64 a6, .string a7, .int .i64 a8, .int .i64 a9, .int .i64 a10, .float .f64 a11, .string a12, .int .i64 a13] 26))
  have hu := Tryd.underlying26
  have hu2 := Tryd.underlying24
  go_enter Tryd.func5, Tryd.ntmps5
  go_wp2_with (first | (go_at_call 18; have hb0 := HB.out; refine (szV_calls a4 a5 a6 a7 a8 _ _).mono ?_; rintro e w1 ⟨⟨r1, rfl⟩, hb⟩; have HB1 := Aside0.mk (below_step HB.out hb); obtain ⟨xz0, xz1, xz2, xz3, xz4, xz5, xz6, xz7, xz8, xz9, xz10, xz11, xz12, xz13⟩ := c14 (blk_below BX.out hb); clear hb hb0 HB BX) | (go_at_call 18; refine (szV_calls a9 a10 a11 a12 a13 _ _).mono ?_; rintro e w2 ⟨⟨r2, rfl⟩, hb⟩; have HB2 := Aside0.mk (below_step HB1.out hb); clear hb))
  all_goals
    go_ret
    first | exact ⟨⟨_, rfl⟩, HB2.out⟩ | exact ⟨⟨_, rfl⟩, HB1.out⟩
set_option maxHeartbeats 8000000 in
set_option maxRecDepth 100000 in
theorem szXS_calls (xs : List S26) (A : Option Addr) (c : Nat) (w : World) (hr : Kd.C k26 w A xs.length xs) :
    Calls Tryd.prog 9 #[.slice A xs.length c, .int .i64 1048576] w fun e w' => (∃ r : Int, e = .returned (.int .i64 r) ∧ (0 ≤ r → xs.length ≤ 1048576)) ∧ Below w.heap.size w w' := by
  have HR := Aside0.mk hr
  have HM := Aside0.mk hr.2.1
  have HQ := Aside0.mk (Below.refl w.heap.size w)
  have hu := Tryd.underlying26
  by_cases hn : 1048576 < xs.length
  · have hm := hr.2.1
    have k1 : IntKind.i64.wrap (1048576 - (xs.length : Int)) = 1048576 - (xs.length : Int) := IntWalk.i64_in _ ⟨by omega, by omega⟩
    have k2 : decide (1048576 - (xs.length : Int) < 0) = true := decide_eq_true (by omega)
    clear hr hn hm
    go_enter Tryd.func9, Tryd.ntmps9
    go_wp2
    go_ret
    exact ⟨⟨_, rfl, fun h => absurd h (by decide)⟩, HQ.out⟩
  · have hm := hr.2.1
    have k1 : IntKind.i64.wrap (1048576 - (xs.length : Int)) = 1048576 - (xs.length : Int) := IntWalk.i64_in _ ⟨by omega, by omega⟩
    have k2 : decide (1048576 - (xs.length : Int) < 0) = false := decide_eq_false (by omega)
    have HN : Aside0 (xs.length ≤ 1048576) := ⟨by omega⟩
    clear hr hn hm
    go_enter Tryd.func9, Tryd.ntmps9
    go_wp2
    go_loopg [1, 5] xs.length (fun d v1 v5 wr => ∃ (i : Nat) (l : Int), v5 = .int .i64 (i : Int) ∧ v1 = .int .i64 l ∧ Aside0 (i + d = xs.length) ∧ Aside0 (Below w.heap.size w wr))
    case atStart => exact ⟨0, _, rfl, rfl, ⟨Nat.zero_add _⟩, HQ⟩
    case round =>
      clear HQ k1 k2
      obtain ⟨i, l, rfl, rfl, HD, HQ⟩ := hrel
      have hm := HM.out
      cases gk with
      | zero =>
        have c1 : decide ((i : Int) < (xs.length : Int)) = false := decide_eq_false (by have := HD.out; omega)
        have c1n : decide (i < xs.length) = false := decide_eq_false (by have := HD.out; omega)
        clear hm
        go_wp2
        go_ret
        exact ⟨⟨_, rfl, fun _ => HN.out⟩, HQ.out⟩
      | succ d =>
        have hi : i < xs.length := by have := HD.out; omega
        have c1 : decide ((i : Int) < (xs.length : Int)) = true := decide_eq_true (by omega)
        have c1n : decide (i < xs.length) = true := decide_eq_true hi
        have c2 : decide (0 ≤ (i : Int)) = true := decide_eq_true (by omega)
        obtain ⟨ad, e1, hx0, hx1, hx2, hx3, hx4, hx5, hx6, hx7, hx8, hx9, hx10, hx11, hx12, hx13⟩ := at_T26 (Kd.C_below HR.out HQ.out) (i : Int) (by omega) (by omega)
        cases e1
        simp only [Int.toNat_natCast] at hx0 hx1 hx2 hx3 hx4 hx5 hx6 hx7 hx8 hx9 hx10 hx11 hx12 hx13
        have q1 : 0 ≤ (i : Int) := by omega
        have q2 : (i : Int) < (xs.length : Int) := by omega
        have q3 : IntKind.i64.wrap ((i : Int) + 1) = ((i + 1 : Nat) : Int) := by rw [IntWalk.i64_in _ ⟨by omega, by omega⟩]; omega
        have HC : Aside0 (∀ w1, Calls Tryd.prog 5 #[.agg #[.int .i64 (rd_T26 xs (i : Int)).f0, .int .i64 (rd_T26 xs (i : Int)).f1, .int .i64 (rd_T26 xs (i : Int)).f2, .int .i64 (rd_T26 xs (i : Int)).f3, .int .i64 (rd_T26 xs (i : Int)).f4.f0, .int .i64 (rd_T26 xs (i : Int)).f4.f1, .float .f64 (rd_T26 xs (i : Int)).f4.f2, .string (rd_T26 xs (i : Int)).f4.f3, .int .i64 (rd_T26 xs (i : Int)).f4.f4, .int .i64 (rd_T26 xs (i : Int)).f5.f0, .int .i64 (rd_T26 xs (i : Int)).f5.f1, .float .f64 (rd_T26 xs (i : Int)).f5.f2, .string (rd_T26 xs (i : Int)).f5.f3, .int .i64 (rd_T26 xs (i : Int)).f5.f4], .int .i64 l] w1 (SomeInt w1)) := ⟨fun w1 => szX_calls (rd_T26 xs (i : Int)).f0 (rd_T26 xs (i : Int)).f1 (rd_T26 xs (i : Int)).f2 (rd_T26 xs (i : Int)).f3 (rd_T26 xs (i : Int)).f4.f0 (rd_T26 xs (i : Int)).f4.f1 (rd_T26 xs (i : Int)).f4.f2 (rd_T26 xs (i : Int)).f4.f3 (rd_T26 xs (i : Int)).f4.f4 (rd_T26 xs (i : Int)).f5.f0 (rd_T26 xs (i : Int)).f5.f1 (rd_T26 xs (i : Int)).f5.f2 (rd_T26 xs (i : Int)).f5.f3 (rd_T26 xs (i : Int)).f5.f4 l w1⟩
        clear hm hi
        go_wp2_with (go_at_call 5; refine (HC.out _).mono ?_; rintro e w1 ⟨⟨r, rfl⟩, hb⟩; have HQ1 := Aside0.mk (below_step HQ.out hb); clear hb)
        all_goals first
          | (go_ret; exact ⟨⟨_, rfl, fun h => absurd h (by decide)⟩, HQ1.out⟩)
          | (go_roundg d
             case measure => omega
             case rel => exact ⟨i + 1, _, by first | rfl | (rw [q3]; done) | simp, rfl, ⟨by have := HD.out; omega⟩, HQ1⟩)
end Go.Proofs.YtclploookcjcbaaDoor.PIde
