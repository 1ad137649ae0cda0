/- Proved: what the law's markText comes to, and that the float of a small whole number equals itself; what the law's marks leave of the memory, and how one cell of an element of a row is written; what the law's markPairS comes to: each cell of each element holds its mark, nothing old but the row is written; what the law's markAnsS comes to: each cell of each element holds its mark, nothing old but the row is written; what the law's markActS comes to: each cell of each element holds its mark, nothing old but the row is written; the law's comparison of a value with an equal one answers true; what the law's markPlainS and markIdeal come to: the answers and the tables hold their marks, nothing below them is written. Conditions: those each theorem states. -/
import Derived.Test.YtclploookcjcbaaDoorPIdex0
import Derived.Test.YtclploookcjcbaaDoorFltL
import Derived.Test.YtclploookcjcbaaDoorIdGD
import Derived.Deep.RegionLaw
namespace Go.Proofs.YtclploookcjcbaaDoor.PIde
open Go.RowKit Go.Proofs.YtclploookcjcbaaDoorW.PrintWords Go.Proofs.YtclploookcjcbaaDoorW.PrintLast Go.Proofs.YtclploookcjcbaaDoorW.PrintMore Go.Proofs.YtclploookcjcbaaDoorW.FltL
attribute [local go_sem] max2_int min2_int max_two min_two max_three min_three max_four min_four   -- for this text's walks alone
set_option linter.unusedVariables false
set_option linter.unusedSimpArgs false
def mtl : Nat → Int → ByteArray → Option (ByteArray)
  | 0, _, _ => none
  | k + 1, x0, x3 => if x0 > 0 then ((some (([(wrap64 (48 + (Int.tmod x0 10))) % 256] : List Int) : List Int)).bind fun y240 => (if (strOfNums y240).size + x3.size ≤ 9223372036854775807 then (mtl k (wrap64 (Int.tdiv x0 10)) ((strOfNums y240) ++ x3)) else (none))) else (if 1 + x3.size ≤ 9223372036854775807 then (some ((⟨#[109]⟩ : ByteArray) ++ x3)) else (none))
def mtf (k : Nat) (a0 : Int) : Option (ByteArray) := if a0 ≤ 0 then (some (⟨#[109, 48]⟩ : ByteArray)) else (mtl k a0 (⟨#[]⟩ : ByteArray))
set_option maxHeartbeats 8000000 in
set_option maxRecDepth 100000 in
theorem mtf_calls (k : Nat) (a0 : Int) (r : ByteArray) (w : World) (h : mtf k a0 = some r) :
    Calls Tryd.prog 30 #[.int .i64 a0] w fun e w' => e = .returned (.string r) ∧ Below w.heap.size w w' := by
  have HB := Aside0.mk (Below.refl w.heap.size w)
  have H : (if a0 ≤ 0 then (some (⟨#[109, 48]⟩ : ByteArray)) else (mtl k a0 (⟨#[]⟩ : ByteArray))) = some r := h
  clear h
  by_cases c2 : a0 ≤ 0
  · rw [if_pos c2] at H
    have c2b0 : decide (a0 ≤ 0) = true := decide_eq_true c2
    clear c2
    obtain rfl := Option.some.inj H
    go_enter Tryd.func30, Tryd.ntmps30
    go_wp2
    go_ret
    exact ⟨rfl, HB.out⟩
  · rw [if_neg c2] at H
    have c2b0 : decide (a0 ≤ 0) = false := decide_eq_false c2
    clear c2
    have H' := Aside0.mk H
    clear H
    go_enter Tryd.func30, Tryd.ntmps30
    go_wp2
    go_loopg [0, 3] k (fun kq v0 v3 w' => ∃ (x0_1 : Int) (x3_1 : ByteArray), v0 = .int .i64 x0_1 ∧ v3 = .string x3_1 ∧ Aside0 (mtl kq x0_1 x3_1 = some r) ∧ Aside0 (kq ≤ k) ∧ Aside0 (Below w.heap.size w w'))
    case atStart => exact ⟨a0, (⟨#[]⟩ : ByteArray), rfl, rfl, H', ⟨Nat.le_refl _⟩, HB⟩
    case round =>
      clear H'
      try clear c2b0
      obtain ⟨x0_1, x3_1, rfl, rfl, HA, HK1, HB⟩ := hrel
      cases gk with
      | zero => exact absurd HA.out (by simp [mtl])
      | succ k1 =>
        have H := HA.out
        clear HA
        simp only [mtl] at H
        by_cases c3 : x0_1 > 0
        · rw [if_pos c3] at H
          have c3b0 : decide (0 < x0_1) = true := decide_eq_true c3
          clear c3
          obtain ⟨y240, hy240⟩ : ∃ y_ : List Int, y_ = (([(wrap64 (48 + (Int.tmod x0_1 10))) % 256] : List Int)) := ⟨_, rfl⟩
          replace H : (if (strOfNums y240).size + x3_1.size ≤ 9223372036854775807 then (mtl k1 (wrap64 (Int.tdiv x0_1 10)) ((strOfNums y240) ++ x3_1)) else (none)) = some r := by rw [hy240]; exact H
          have Ny240 := Aside0.mk hy240
          clear hy240
          by_cases c4 : (strOfNums y240).size + x3_1.size ≤ 9223372036854775807
          · rw [if_pos c4] at H
            have c4b0 := eq_true c4
            have c4b1 : decide ((strOfNums y240).size + x3_1.size ≤ 9223372036854775807) = true := decide_eq_true c4
            have c4b2 : (9223372036854775807 < (strOfNums y240).size + x3_1.size) = False := eq_false (Nat.not_lt.2 c4)
            have H' := Aside0.mk H
            clear H
            go_wp2_with ((with_reducible refine gate_dst (N := 12) rfl ?_); refine Kd.R_lit (Kd.int .u8) _ 5 ?hg (N := 12) ?hd (xs := ([(wrap64 (48 + (Int.tmod x0_1 10))) % 256] : List Int)) (inner := [.int .u8 ((wrap64 (48 + (Int.tmod x0_1 10))) % 256)]) (ok := fun _ => True) (okp := fun _ => True) ?hr ?hp (fun _ hk => hk) trivial (Below.refl _ _) (Nat.le_refl _) (by simp) ?_; (case hd => rfl); (case hg => rfl); (case hr => first | (go_simp; done) | (go_simp; rfl)); (case hp => exact (Reps.one (show Kd.M (Kd.int .u8) _ _ _ ((wrap64 (48 + (Int.tmod x0_1 10))) % 256) [.int .u8 ((wrap64 (48 + (Int.tmod x0_1 10))) % 256)] from rfl) (Reps.none _ _))); intro v241 w5 ho6 hb hg_ hnew_; clear hg_ hnew_; (first | rw [← Ny240.out] at ho6 | (simp only [Int.reduceToNat] at ho6; rw [← Ny240.out] at ho6)); have n0_ := Aside0.mk (Kd.R_lower ho6 (below_size HB.out)); have n1_ := Aside0.mk (below_step HB.out hb); clear HB; have HO242 := n0_; have HB := n1_; clear n0_ n1_; clear hb ho6; have hcv7 := own_string (P := Tryd.prog) Tryd.underlying92 Tryd.underlying5 Tryd.underlying9 (Kd.own_of_R HO242.out))
            go_roundg k1
            case measure => have := HK1.out; omega
            case rel => exact ⟨(wrap64 (Int.tdiv x0_1 10)), ((strOfNums y240) ++ x3_1), (by first | rfl | (simp; done) | (simp [*]; done)), (by first | rfl | (simp; done) | (simp [*]; done)), H', ⟨by have := HK1.out; omega⟩, ⟨by repeat (first | (with_reducible first | exact HB.out | apply below_alloc | apply pw_below_drewN | apply below_drew1) | exact HB.out)⟩⟩
          · rw [if_neg c4] at H
            exact absurd H (by simp)
        · rw [if_neg c3] at H
          have c3b0 : decide (0 < x0_1) = false := decide_eq_false c3
          clear c3
          by_cases c8 : 1 + x3_1.size ≤ 9223372036854775807
          · rw [if_pos c8] at H
            have c8b0 := eq_true c8
            have c8b1 : decide (1 + x3_1.size ≤ 9223372036854775807) = true := decide_eq_true c8
            have c8b2 : (9223372036854775807 < 1 + x3_1.size) = False := eq_false (Nat.not_lt.2 c8)
            obtain rfl := Option.some.inj H
            go_wp2
            go_ret
            exact ⟨by first | rfl | (simp; done) | (simp [*]; done), HB.out⟩
          · rw [if_neg c8] at H
            exact absurd H (by simp)
theorem mtl_some : ∀ (k : Nat) (x : Int) (o : ByteArray), k ≤ 18 → x < ((10 ^ k : Nat) : Int) → o.size + k ≤ 100 → ∃ r, mtl (k + 1) x o = some r
  | 0, x, o, _, hx, ho => by
    refine ⟨⟨#[109]⟩ ++ o, ?_⟩
    unfold mtl
    rw [if_neg (by have : (10 : Nat) ^ 0 = 1 := rfl; omega), if_pos (by omega)]
  | k + 1, x, o, hk, hx, ho => by
    have e : ∀ n : Int, (strOfNums [n]).size = 1 := fun n => rfl
    unfold mtl
    by_cases h : x > 0
    · rw [if_pos h]
      simp only [Option.bind_some]
      rw [if_pos (by rw [e]; omega)]
      have e1 : Int.tdiv x 10 = x / 10 := Int.tdiv_eq_ediv_of_nonneg (by omega)
      have h10 : (10 : Nat) ^ (k + 1) = 10 ^ k * 10 := rfl
      have hp : (10 : Nat) ^ k ≤ 10 ^ 17 := Nat.pow_le_pow_right (by omega) (by omega)
      have h17 : (10 : Nat) ^ 17 = 100000000000000000 := rfl
      rw [h10] at hx
      have e2 : wrap64 (Int.tdiv x 10) = x / 10 := by rw [e1]; unfold wrap64; omega
      rw [e2]
      exact mtl_some k _ _ (by omega) (by omega) (by rw [ByteArray.size_append, e]; omega)
    · rw [if_neg h, if_pos (by omega)]
      exact ⟨_, rfl⟩
/-- The text of a mark. -/
def mtx (a : Int) : ByteArray := (mtf 19 a).getD ⟨#[]⟩
theorem mt_calls (a : Int) (ha : a < 1000000000000000000) (w : World) : Calls Tryd.prog 30 #[.int .i64 a] w fun e w' => e = .returned (.string (mtx a)) ∧ Below w.heap.size w w' := by
  refine mtf_calls 19 a _ w ?_
  unfold mtx
  obtain ⟨r, hr⟩ := mtl_some 18 a ⟨#[]⟩ (Nat.le_refl _) (by have : (10 : Nat) ^ 18 = 1000000000000000000 := rfl; omega) (by decide)
  unfold mtf
  split
  · rfl
  · rw [hr]; rfl
theorem feq_whole (k : Int) (h0 : 0 ≤ k) (h1 : k < 4503599627370496) : feq (floatOfInt .f64 k) (floatOfInt .f64 k) = true := by
  have e : floatOfInt .f64 k = Ieee.double.nearest false k.natAbs 0 := by
    have hn : decide (k < 0) = false := decide_eq_false (by omega)
    show FloatKind.f64.encode (.number (decide (k < 0)) k.natAbs 0) = _
    rw [hn]
    rfl
  obtain ⟨K, e1, h, he, -⟩ := whole_back 1100 (by omega) false k.natAbs (by have : (2 : Nat) ^ 63 = 9223372036854775808 := rfl; omega) ⟨k.natAbs, 0, by omega, by have : (2 : Nat) ^ 53 = 9007199254740992 := rfl; omega⟩
  rw [e, feq_V 1100 (by omega) h h he he]
  simp
end Go.Proofs.YtclploookcjcbaaDoor.PIde
namespace Go.Proofs.YtclploookcjcbaaDoor.PIde
open Go.RowKit Go.Proofs.YtclploookcjcbaaDoorW.PrintWords Go.Proofs.YtclploookcjcbaaDoorW.PrintLast Go.Proofs.YtclploookcjcbaaDoorW.PrintMore
attribute [local go_sem] max2_int min2_int max_two min_two max_three min_three max_four min_four   -- for this text's walks alone
set_option linter.unusedVariables false
set_option linter.unusedSimpArgs false
/-- Of the old blocks only g is written. -/
def OnlyG (g : Nat) (w W : World) : Prop := w.grownBy W (some g)
theorem OnlyG.refl (g : Nat) (w : World) : OnlyG g w w := ⟨rfl, rfl, rfl, Nat.le_refl _, fun _ _ _ => rfl⟩
theorem OnlyG.set {g : Nat} {w W : World} (h : OnlyG g w W) (o : Nat) (u : Value) : OnlyG g w (W.setCell ⟨g, o, none⟩ u) := ⟨h.os, h.tape, h.output, by simpa using h.size, fun k hk hn => (Below.heap_setCell W ⟨g, o, none⟩ u k (fun e => hn (congrArg some e))).trans (h.block k hk hn)⟩
theorem OnlyG.below {g : Nat} {w W W1 : World} (h : OnlyG g w W) (hb : Below W.heap.size W W1) : OnlyG g w W1 := ⟨hb.os.trans h.os, hb.tape.trans h.tape, hb.output.trans h.output, Nat.le_trans h.size hb.size, fun k hk hn => (hb.block k (Nat.lt_of_lt_of_le hk h.size)).trans (h.block k hk hn)⟩
/-- At most one old block is written: a block of a row's own, of one type. -/
def OnlyR (base : Nat) (ok : Nat → Prop) (t : TypeId) (w W : World) : Prop := ∃ row, w.grownBy W row ∧ ∀ q, row = some q → base ≤ q ∧ ok q ∧ ∃ cs, w.heap[q]? = some (.cells cs t (0, 0))
theorem OnlyR.size {base : Nat} {ok : Nat → Prop} {t : TypeId} {w W : World} (h : OnlyR base ok t w W) : w.heap.size ≤ W.heap.size := by obtain ⟨row, h, -⟩ := h; exact h.size
theorem OnlyR.below {base : Nat} {ok : Nat → Prop} {t : TypeId} {w W : World} (h : OnlyR base ok t w W) (hb : base ≤ w.heap.size) : Below base w W := by
  obtain ⟨row, h, hr⟩ := h
  exact Below.grown (Below.refl _ _) h hb (fun k e => (hr k e).1)
theorem OnlyR.kt {base : Nat} {ok : Nat → Prop} {t : TypeId} {w W : World} {L : List Nat} (h : OnlyR base ok t w W) (ht : t ∈ L) : KT L w W := by
  obtain ⟨row, h, hr⟩ := h
  exact KT.grown h (fun k e => by obtain ⟨cs, hc⟩ := (hr k e).2.2; exact ⟨cs, t, hc, ht⟩)
theorem OnlyR.block {base : Nat} {ok : Nat → Prop} {t : TypeId} {w W : World} (h : OnlyR base ok t w W) (k : Nat) (hk : k < w.heap.size) (hn : ¬ ok k) : W.heap[k]? = w.heap[k]? := by
  obtain ⟨row, h, hr⟩ := h
  exact h.block k hk (fun e => hn (hr k e.symm).2.1)
theorem knext {a n : Int} (h : 0 ≤ a ∧ a + (n + 1) < 1000000000000000) (hn : 0 ≤ n) : IntKind.i64.wrap (a + 1) = a + 1 ∧ 0 ≤ a + 1 ∧ a + 1 + n < 1000000000000000 := ⟨IntWalk.i64_in _ ⟨by omega, by omega⟩, by omega, by omega⟩
theorem kbound {a n : Int} (h : 0 ≤ a ∧ a + n < 1000000000000000) (hn : 0 ≤ n) : a < 1000000000000000000 := by omega
theorem kend (k n : Int) (i : Nat) : k + n * (i : Int) + n = k + n * ((i + 1 : Nat) : Int) := by rw [Int.natCast_succ, Int.mul_add, Int.mul_one, Int.add_assoc]
theorem inext {i : Nat} (h : i < 9223372036854775807) : IntKind.i64.wrap ((i : Int) + 1) = ((i + 1 : Nat) : Int) := by rw [IntWalk.i64_in _ ⟨by omega, by omega⟩]; omega
theorem set_cut {α : Type} (u : α) : ∀ (l : List α) (j : Nat), j < l.length → l.take j ++ [u] ++ l.drop (j + 1) = l.set j u
  | [], j, h => by simp at h
  | a :: l, 0, _ => by simp
  | a :: l, j + 1, h => by simpa using set_cut u l j (by simpa using h)
section
variable {α : Type} {d : Kd α} {enc : α → List Value} {e base g n cap i s : Nat} {ok : Nat → Prop} {W : World} {ys : List α} {x x' z : α}
theorem row_set (ho : ∀ {W : World} {base : Nat} {ok : Nat → Prop} {x : α} {cs : List Value}, d.M W base ok x cs → cs = enc x) (hm : ∀ (W : World) (base : Nat) (ok : Nat → Prop) (x : α), d.M W base ok x (enc x)) (hs : d.sz = s)
    (h : d.R e W base ok (.slice (some ⟨g, 0, none⟩) n cap) (ys.set i x)) (hi : i < n) (j : Nat) (u : Value) (hj : j + 1 ≤ s) (hx : enc x' = (enc x).set j u) :
    d.R e (W.setCell ⟨g, i * s + j, none⟩ u) base ok (.slice (some ⟨g, 0, none⟩) n cap) (ys.set i x') := by
  subst hs
  have hl := (Kd.R_reads' h).1
  rw [List.length_set] at hl
  have hg : (ys.set i x).getD (i : Int).toNat x = x := by simp [List.getD_eq_getElem?_getD, List.getElem?_set, show i < ys.length by omega]
  obtain ⟨c, hcl, hM, hcc, _⟩ := Kd.R_elem h x (i : Int) (by omega) (by omega)
  rw [hg] at hM
  obtain rfl := ho hM
  have := (Kd.R_seg h (i : Int) (by omega) (by omega) (seg := [u]) (j := j) hcl hcc hj (x' := x') (okp := fun _ => False) (by
    rw [show ([u] : List Value).length = 1 from rfl, set_cut u _ j (by omega), ← hx]
    exact hm _ _ _ _) (fun _ hk => hk.elim)).1
  rw [show ((i : Int).toNat) = i from rfl, List.set_set] at this
  exact this
theorem row_cell (ho : ∀ {W : World} {base : Nat} {ok : Nat → Prop} {x : α} {cs : List Value}, d.M W base ok x cs → cs = enc x) (hs : d.sz = s)
    (h : d.R e W base ok (.slice (some ⟨g, 0, none⟩) n cap) (ys.set i x)) (hi : i < n) : (∀ j u, (enc x)[j]? = some u → W.cell? ⟨g, i * s + j, none⟩ = some u) ∧ ∀ j, W.frozen? ⟨g, i * s + j, none⟩ = false := by
  subst hs
  have hl := (Kd.R_reads' h).1
  rw [List.length_set] at hl
  have hg : (ys.set i x).getD (i : Int).toNat x = x := by simp [List.getD_eq_getElem?_getD, List.getElem?_set, show i < ys.length by omega]
  obtain ⟨c, hcl, hM, hcc, hf⟩ := Kd.R_elem h x (i : Int) (by omega) (by omega)
  rw [hg] at hM
  obtain rfl := ho hM
  exact ⟨hcc, hf⟩
theorem row_one (ho : ∀ {W : World} {base : Nat} {ok : Nat → Prop} {x : α} {cs : List Value}, d.M W base ok x cs → cs = enc x) (hs : d.sz = s)
    (h : d.R e W base ok (.slice (some ⟨g, 0, none⟩) n cap) (ys.set i x)) (hi : i < n) (j : Nat) {u : Value} (hj : (enc x)[j]? = some u) : W.cell? ⟨g, i * s + j, none⟩ = some u ∧ W.frozen? ⟨g, i * s + j, none⟩ = false :=
  ⟨(row_cell ho hs h hi).1 j u hj, (row_cell ho hs h hi).2 j⟩
theorem mstep {P : Program} {c : Code} {Q : Exit → Act → World → Prop} {a : Act} {w : World} (ho : ∀ {W : World} {base : Nat} {ok : Nat → Prop} {x : α} {cs : List Value}, d.M W base ok x cs → cs = enc x) (hm : ∀ (W : World) (base : Nat) (ok : Nat → Prop) (x : α), d.M W base ok x (enc x)) (hs : d.sz = s)
    (h : d.R e W base ok (.slice (some ⟨g, 0, none⟩) n cap) (ys.set i x)) (hi : i < n) (hg : OnlyG g w W) (j : Nat) (u : Value) (hj : j + 1 ≤ s) (hx : enc x' = (enc x).set j u)
    (hk : ∀ W1 : World, d.R e W1 base ok (.slice (some ⟨g, 0, none⟩) n cap) (ys.set i x') → OnlyG g w W1 → c.wp P Q a W1) : c.wp P Q a (W.setCell ⟨g, i * s + j, none⟩ u) :=
  hk _ (row_set ho hm hs h hi j u hj hx) (hg.set _ _)
theorem row_open (h : d.R e W base ok (.slice (some ⟨g, 0, none⟩) n cap) ys) (hi : i < n) (z : α) : d.R e W base ok (.slice (some ⟨g, 0, none⟩) n cap) (ys.set i (ys.getD i z)) := by
  have hl := (Kd.R_reads' h).1
  have : ys.set i (ys.getD i z) = ys := by
    rw [List.getD_eq_getElem?_getD, List.getElem?_eq_getElem (by omega), Option.getD_some]
    exact List.set_getElem_self _
  rwa [this]
end
theorem o60 {W : World} {base : Nat} {ok : Nat → Prop} {x : S60} {cs : List Value} (h : k60.M W base ok x cs) : cs = anc x := (k60_openM h).trans rfl
theorem m60 (W : World) (base : Nat) (ok : Nat → Prop) (x : S60) : k60.M W base ok x (anc x) := k60_mkM W base ok x
theorem o88 {W : World} {base : Nat} {ok : Nat → Prop} {x : S88} {cs : List Value} (h : k88.M W base ok x cs) : cs = pc x := (k88_openM h).trans rfl
theorem m88 (W : World) (base : Nat) (ok : Nat → Prop) (x : S88) : k88.M W base ok x (pc x) := k88_mkM W base ok x
theorem o31 {W : World} {base : Nat} {ok : Nat → Prop} {x : S31} {cs : List Value} (h : k31.M W base ok x cs) : cs = ac x := (k31_openM h).trans rfl
theorem m31 (W : World) (base : Nat) (ok : Nat → Prop) (x : S31) : k31.M W base ok x (ac x) := k31_mkM W base ok x
/-- A value of five marks, from k on. -/
def mV (k : Int) : S29 := ⟨k, k + 1, floatOfInt .f64 (k + 2), mtx (k + 3), k + 4⟩
def mA (k : Int) : S60 := ⟨k, k + 1, mV (k + 2), mV (k + 7)⟩
def mP (k : Int) : S88 := ⟨mV k, mV (k + 5), k + 10⟩
def mX (k : Int) : S31 := ⟨k, k + 1, k + 2, k + 3, mV (k + 4), mV (k + 9)⟩
end Go.Proofs.YtclploookcjcbaaDoor.PIde
namespace Go.Proofs.YtclploookcjcbaaDoor.PIde
open Go.RowKit Go.Proofs.YtclploookcjcbaaDoorW.PrintWords Go.Proofs.YtclploookcjcbaaDoorW.PrintLast Go.Proofs.YtclploookcjcbaaDoorW.PrintMore
attribute [local go_sem] max2_int min2_int max_two min_two max_three min_three max_four min_four   -- for this text's walks alone
set_option linter.unusedVariables false
set_option linter.unusedSimpArgs false
set_option maxHeartbeats 8000000 in
set_option maxRecDepth 100000 in
theorem mkp_calls (xs : List S88) (k : Int) (v : Value) (base : Nat) (ok : Nat → Prop) (w : World) (hr : Kd.R k88 88 w base ok v xs) (hk : 0 ≤ k) (hb : k + 11 * xs.length < 1000000000000000) :
    Calls Tryd.prog 49 #[v, .int .i64 k] w fun e w' => e = .returned (.int .i64 (k + 11 * xs.length)) ∧ ∃ ys, ys.length = xs.length ∧ (∀ j : Nat, j < ys.length → ys[j]? = some (mP (k + 11 * j))) ∧ Kd.R k88 88 w' base ok v ys ∧ OnlyR base ok 88 w w' := by
  have hrr := hr
  obtain ⟨A, cap, rfl⟩ := Kd.R_slice hr
  obtain ⟨-, hl, hC⟩ := Kd.R_reads' hr
  have HM := Aside0.mk hC.2.1
  have HT := Aside0.mk hr
  have HB := Aside0.mk hb
  have HK := Aside0.mk hk
  clear hl hC hr hb hk
  have hu := Tryd.underlying88
  have hu2 := Tryd.underlying29
  go_enter Tryd.func49, Tryd.ntmps49
  go_wp2
  go_loopg [1, 5] xs.length (fun d v1 v5 wr => ∃ i : Nat, v5 = .int .i64 (i : Int) ∧ v1 = .int .i64 (k + 11 * i) ∧ Aside0 (i + d = xs.length) ∧ Aside0 (∃ ys, ys.length = xs.length ∧ (∀ j : Nat, j < i → ys[j]? = some (mP (k + 11 * j))) ∧ Kd.R k88 88 wr base ok (.slice A xs.length cap) ys) ∧ Aside0 (∀ g, A = some ⟨g, 0, none⟩ → OnlyG g w wr) ∧ Aside0 (w.heap.size ≤ wr.heap.size) ∧ Aside0 (i = 0 → wr = w))
  case atStart => exact ⟨0, rfl, by simp, ⟨Nat.zero_add _⟩, ⟨xs, rfl, fun j hj => absurd hj (Nat.not_lt_zero _), HT.out⟩, ⟨fun g _ => OnlyG.refl g w⟩, ⟨Nat.le_refl _⟩, ⟨fun _ => rfl⟩⟩
  case round =>
    obtain ⟨i, rfl, rfl, HD, HY, HG, HS, HZ⟩ := hrel
    have hm := HM.out
    cases gk with
    | zero =>
      have hi : i = xs.length := by have := HD.out; omega
      subst hi
      have c1 : decide ((xs.length : Int) < (xs.length : Int)) = false := decide_eq_false (by omega)
      have c1n : decide (xs.length < xs.length) = false := decide_eq_false (by omega)
      clear hm
      go_wp2
      go_ret
      obtain ⟨ys, hyl, hyy, hyR⟩ := HY.out
      refine ⟨rfl, ys, hyl, fun j hj => hyy j (hyl ▸ hj), hyR, ?_⟩
      by_cases h0 : xs.length = 0
      · rw [HZ.out h0]; exact ⟨none, ⟨rfl, rfl, rfl, Nat.le_refl _, fun _ _ _ => rfl⟩, fun _ e => by simp at e⟩
      · obtain ⟨g, c', he, hbg, -, ht⟩ := Kd.R_form HT.out (by omega)
        injection he with he
        exact ⟨some g, HG.out g he, fun q e => by injection e with e; subst e; exact ⟨hbg, HT.out.1 g (by rw [he]; rfl), ht⟩⟩
    | succ d =>
      have hi : i < xs.length := by have := HD.out; omega
      have c1 : decide ((i : Int) < (xs.length : Int)) = true := decide_eq_true (by omega)
      have c1n : decide (i < xs.length) = true := decide_eq_true hi
      have c2 : decide (0 ≤ (i : Int)) = true := decide_eq_true (by omega)
      obtain ⟨ys, hyl, hyy, hyR⟩ := HY.out
      obtain ⟨g, c', he, -, hgl, -⟩ := Kd.R_form hyR (by omega)
      injection he with he hq hc
      subst he
      subst hc
      clear hq
      have hyR1 := row_open hyR hi z88
      generalize ys.getD i z88 = xx at hyR1
      obtain ⟨⟨a0, a1, a2, a3, a4⟩, ⟨a5, a6, a7, a8, a9⟩, a10⟩ := xx
      have HI := Aside0.mk hi
      have HR := Aside0.mk hyR1
      have HYL := Aside0.mk hyl
      have HYY := Aside0.mk hyy
      replace HG := Aside0.mk (HG.out g rfl)
      obtain ⟨k0, hk0⟩ : ∃ k0 : Int, k0 = k + 11 * (i : Int) := ⟨_, rfl⟩
      have hb0 : 0 ≤ k0 ∧ k0 + 11 < 1000000000000000 := ⟨by have := HK.out; omega, by have := HB.out; omega⟩
      rw [← hk0]
      obtain ⟨k1, hk1⟩ : ∃ q : Int, q = k0 + 1 := ⟨_, rfl⟩
      obtain ⟨hv1, hb1⟩ := knext (n := 10) hb0 (by decide)
      replace hv1 := hv1.trans hk1.symm
      rw [← hk1] at hb1
      obtain ⟨k2, hk2⟩ : ∃ q : Int, q = k1 + 1 := ⟨_, rfl⟩
      obtain ⟨hv2, hb2⟩ := knext (n := 9) hb1 (by decide)
      replace hv2 := hv2.trans hk2.symm
      rw [← hk2] at hb2
      obtain ⟨k3, hk3⟩ : ∃ q : Int, q = k2 + 1 := ⟨_, rfl⟩
      obtain ⟨hv3, hb3⟩ := knext (n := 8) hb2 (by decide)
      replace hv3 := hv3.trans hk3.symm
      rw [← hk3] at hb3
      obtain ⟨k4, hk4⟩ : ∃ q : Int, q = k3 + 1 := ⟨_, rfl⟩
      obtain ⟨hv4, hb4⟩ := knext (n := 7) hb3 (by decide)
      replace hv4 := hv4.trans hk4.symm
      rw [← hk4] at hb4
      obtain ⟨k5, hk5⟩ : ∃ q : Int, q = k4 + 1 := ⟨_, rfl⟩
      obtain ⟨hv5, hb5⟩ := knext (n := 6) hb4 (by decide)
      replace hv5 := hv5.trans hk5.symm
      rw [← hk5] at hb5
      obtain ⟨k6, hk6⟩ : ∃ q : Int, q = k5 + 1 := ⟨_, rfl⟩
      obtain ⟨hv6, hb6⟩ := knext (n := 5) hb5 (by decide)
      replace hv6 := hv6.trans hk6.symm
      rw [← hk6] at hb6
      obtain ⟨k7, hk7⟩ : ∃ q : Int, q = k6 + 1 := ⟨_, rfl⟩
      obtain ⟨hv7, hb7⟩ := knext (n := 4) hb6 (by decide)
      replace hv7 := hv7.trans hk7.symm
      rw [← hk7] at hb7
      obtain ⟨k8, hk8⟩ : ∃ q : Int, q = k7 + 1 := ⟨_, rfl⟩
      obtain ⟨hv8, hb8⟩ := knext (n := 3) hb7 (by decide)
      replace hv8 := hv8.trans hk8.symm
      rw [← hk8] at hb8
      obtain ⟨k9, hk9⟩ : ∃ q : Int, q = k8 + 1 := ⟨_, rfl⟩
      obtain ⟨hv9, hb9⟩ := knext (n := 2) hb8 (by decide)
      replace hv9 := hv9.trans hk9.symm
      rw [← hk9] at hb9
      obtain ⟨k10, hk10⟩ : ∃ q : Int, q = k9 + 1 := ⟨_, rfl⟩
      obtain ⟨hv10, hb10⟩ := knext (n := 1) hb9 (by decide)
      replace hv10 := hv10.trans hk10.symm
      rw [← hk10] at hb10
      obtain ⟨k11, hk11⟩ : ∃ q : Int, q = k10 + 1 := ⟨_, rfl⟩
      obtain ⟨hv11, hb11⟩ := knext (n := 0) hb10 (by decide)
      replace hv11 := hv11.trans hk11.symm
      rw [← hk11] at hb11
      have q1 : 0 ≤ (i : Int) := Int.natCast_nonneg i
      have q2 : (i : Int) < (xs.length : Int) := Int.ofNat_lt.2 hi
      have q3 : IntKind.i64.wrap ((i : Int) + 1) = ((i + 1 : Nat) : Int) := inext (Nat.lt_of_lt_of_le hi hm)
      have HL3 : Aside0 (∀ w1, Calls Tryd.prog 30 #[.int .i64 k3] w1 fun e w' => e = .returned (.string (mtx k3)) ∧ Below w1.heap.size w1 w') := ⟨fun w1 => mt_calls k3 (kbound hb3 (by decide)) w1⟩
      have HL8 : Aside0 (∀ w1, Calls Tryd.prog 30 #[.int .i64 k8] w1 fun e w' => e = .returned (.string (mtx k8)) ∧ Below w1.heap.size w1 w') := ⟨fun w1 => mt_calls k8 (kbound hb8 (by decide)) w1⟩
      have HE : Aside0 ((⟨⟨k0, k1, (floatOfInt .f64 k2), (mtx k3), k4⟩, ⟨k5, k6, (floatOfInt .f64 k7), (mtx k8), k9⟩, k10⟩ : S88) = mP (k + 11 * ((i : Nat) : Int))) := ⟨by rw [← hk0]; simp only [mP, mV, hk1, hk2, hk3, hk4, hk5, hk6, hk7, hk8, hk9, hk10, hk11, Int.add_assoc, Int.reduceAdd]⟩
      have HN : Aside0 (k11 = k + 11 * ((i + 1 : Nat) : Int)) := ⟨by rw [← kend, ← hk0]; simp only [hk1, hk2, hk3, hk4, hk5, hk6, hk7, hk8, hk9, hk10, hk11, Int.add_assoc, Int.reduceAdd]⟩
      clear hyR hyR1 hyl hyy HY hm hi hk0 hk1 hk2 hk3 hk4 hk5 hk6 hk7 hk8 hk9 hk10 hk11 hb0 hb1 hb2 hb3 hb4 hb5 hb6 hb7 hb8 hb9 hb10 hb11
      obtain ⟨hx, hf⟩ := row_one (s := 11) o88 rfl HR.out HI.out 0 rfl; simp only [Nat.add_zero] at hx hf
      go_upto_region 6 with (fail)
      refine mstep (s := 11) o88 m88 rfl (x' := (⟨⟨k0, a1, a2, a3, a4⟩, ⟨a5, a6, a7, a8, a9⟩, a10⟩ : S88)) HR.out HI.out HG.out 0 (.int .i64 k0) (by decide) rfl ?_
      clear HR HG hx hf; intro W1 hr hg; have HR := Aside0.mk hr; have HG := Aside0.mk hg; clear hr hg; obtain ⟨hx, hf⟩ := row_one (s := 11) o88 rfl HR.out HI.out 1 rfl
      go_upto_region 8 with (fail)
      refine mstep (s := 11) o88 m88 rfl (x' := (⟨⟨k0, k1, a2, a3, a4⟩, ⟨a5, a6, a7, a8, a9⟩, a10⟩ : S88)) HR.out HI.out HG.out 1 (.int .i64 k1) (by decide) rfl ?_
      clear HR HG hx hf; intro W1 hr hg; have HR := Aside0.mk hr; have HG := Aside0.mk hg; clear hr hg; obtain ⟨hx, hf⟩ := row_one (s := 11) o88 rfl HR.out HI.out 2 rfl
      go_upto_region 10 with (fail)
      refine mstep (s := 11) o88 m88 rfl (x' := (⟨⟨k0, k1, (floatOfInt .f64 k2), a3, a4⟩, ⟨a5, a6, a7, a8, a9⟩, a10⟩ : S88)) HR.out HI.out HG.out 2 (.float .f64 (floatOfInt .f64 k2)) (by decide) rfl ?_
      clear HR HG hx hf; intro W1 hr hg; have HR := Aside0.mk hr; have HG := Aside0.mk hg; clear hr hg
      go_upto_region 12 with (go_at_call 30; refine (HL3.out _).mono ?_; rintro e w1 ⟨rfl, hb⟩; have HR1 := Aside0.mk (Kd.R_below (w1 := w1) HR.out hb); have HG1 := Aside0.mk (HG.out.below hb); clear hb HR HG; have HR := HR1; have HG := HG1; clear HR1 HG1; obtain ⟨hx, hf⟩ := row_one (s := 11) o88 rfl HR.out HI.out 3 rfl)
      refine mstep (s := 11) o88 m88 rfl (x' := (⟨⟨k0, k1, (floatOfInt .f64 k2), (mtx k3), a4⟩, ⟨a5, a6, a7, a8, a9⟩, a10⟩ : S88)) HR.out HI.out HG.out 3 (.string (mtx k3)) (by decide) rfl ?_
      clear HR HG hx hf HL3; intro W1 hr hg; have HR := Aside0.mk hr; have HG := Aside0.mk hg; clear hr hg; obtain ⟨hx, hf⟩ := row_one (s := 11) o88 rfl HR.out HI.out 4 rfl
      go_upto_region 14 with (fail)
      refine mstep (s := 11) o88 m88 rfl (x' := (⟨⟨k0, k1, (floatOfInt .f64 k2), (mtx k3), k4⟩, ⟨a5, a6, a7, a8, a9⟩, a10⟩ : S88)) HR.out HI.out HG.out 4 (.int .i64 k4) (by decide) rfl ?_
      clear HR HG hx hf; intro W1 hr hg; have HR := Aside0.mk hr; have HG := Aside0.mk hg; clear hr hg; obtain ⟨hx, hf⟩ := row_one (s := 11) o88 rfl HR.out HI.out 5 rfl
      go_upto_region 16 with (fail)
      refine mstep (s := 11) o88 m88 rfl (x' := (⟨⟨k0, k1, (floatOfInt .f64 k2), (mtx k3), k4⟩, ⟨k5, a6, a7, a8, a9⟩, a10⟩ : S88)) HR.out HI.out HG.out 5 (.int .i64 k5) (by decide) rfl ?_
      clear HR HG hx hf; intro W1 hr hg; have HR := Aside0.mk hr; have HG := Aside0.mk hg; clear hr hg; obtain ⟨hx, hf⟩ := row_one (s := 11) o88 rfl HR.out HI.out 6 rfl
      go_upto_region 18 with (fail)
      refine mstep (s := 11) o88 m88 rfl (x' := (⟨⟨k0, k1, (floatOfInt .f64 k2), (mtx k3), k4⟩, ⟨k5, k6, a7, a8, a9⟩, a10⟩ : S88)) HR.out HI.out HG.out 6 (.int .i64 k6) (by decide) rfl ?_
      clear HR HG hx hf; intro W1 hr hg; have HR := Aside0.mk hr; have HG := Aside0.mk hg; clear hr hg; obtain ⟨hx, hf⟩ := row_one (s := 11) o88 rfl HR.out HI.out 7 rfl
      go_upto_region 20 with (fail)
      refine mstep (s := 11) o88 m88 rfl (x' := (⟨⟨k0, k1, (floatOfInt .f64 k2), (mtx k3), k4⟩, ⟨k5, k6, (floatOfInt .f64 k7), a8, a9⟩, a10⟩ : S88)) HR.out HI.out HG.out 7 (.float .f64 (floatOfInt .f64 k7)) (by decide) rfl ?_
      clear HR HG hx hf; intro W1 hr hg; have HR := Aside0.mk hr; have HG := Aside0.mk hg; clear hr hg
      go_upto_region 22 with (go_at_call 30; refine (HL8.out _).mono ?_; rintro e w1 ⟨rfl, hb⟩; have HR1 := Aside0.mk (Kd.R_below (w1 := w1) HR.out hb); have HG1 := Aside0.mk (HG.out.below hb); clear hb HR HG; have HR := HR1; have HG := HG1; clear HR1 HG1; obtain ⟨hx, hf⟩ := row_one (s := 11) o88 rfl HR.out HI.out 8 rfl)
      refine mstep (s := 11) o88 m88 rfl (x' := (⟨⟨k0, k1, (floatOfInt .f64 k2), (mtx k3), k4⟩, ⟨k5, k6, (floatOfInt .f64 k7), (mtx k8), a9⟩, a10⟩ : S88)) HR.out HI.out HG.out 8 (.string (mtx k8)) (by decide) rfl ?_
      clear HR HG hx hf HL8; intro W1 hr hg; have HR := Aside0.mk hr; have HG := Aside0.mk hg; clear hr hg; obtain ⟨hx, hf⟩ := row_one (s := 11) o88 rfl HR.out HI.out 9 rfl
      go_upto_region 24 with (fail)
      refine mstep (s := 11) o88 m88 rfl (x' := (⟨⟨k0, k1, (floatOfInt .f64 k2), (mtx k3), k4⟩, ⟨k5, k6, (floatOfInt .f64 k7), (mtx k8), k9⟩, a10⟩ : S88)) HR.out HI.out HG.out 9 (.int .i64 k9) (by decide) rfl ?_
      clear HR HG hx hf; intro W1 hr hg; have HR := Aside0.mk hr; have HG := Aside0.mk hg; clear hr hg; obtain ⟨hx, hf⟩ := row_one (s := 11) o88 rfl HR.out HI.out 10 rfl
      go_upto_region 3 with (fail)
      refine mstep (s := 11) o88 m88 rfl (x' := (⟨⟨k0, k1, (floatOfInt .f64 k2), (mtx k3), k4⟩, ⟨k5, k6, (floatOfInt .f64 k7), (mtx k8), k9⟩, k10⟩ : S88)) HR.out HI.out HG.out 10 (.int .i64 k10) (by decide) rfl ?_
      clear HR HG hx hf; intro W1 hr hg; have HR := Aside0.mk hr; have HG := Aside0.mk hg; clear hr hg
      go_wp2
      go_roundg d
      case measure => omega
      case rel =>
        refine ⟨i + 1, by first | rfl | (rw [q3]; done) | simp, by rw [HN.out], ⟨by have := HD.out; omega⟩, ⟨_, by rw [List.length_set]; exact HYL.out, fun j hj => ?_, HR.out⟩, ⟨fun g' e => by injection e with e; injection e with e; subst e; exact HG.out⟩, ⟨HG.out.size⟩, ⟨fun h => absurd h (by omega)⟩⟩
        by_cases hji : j = i
        · subst hji
          rw [List.getElem?_set_self (by rw [HYL.out]; exact HI.out), HE.out]
        · rw [List.getElem?_set_ne (fun e => hji e.symm)]
          exact HYY.out j (by omega)
end Go.Proofs.YtclploookcjcbaaDoor.PIde
namespace Go.Proofs.YtclploookcjcbaaDoor.PIde
open Go.RowKit Go.Proofs.YtclploookcjcbaaDoorW.PrintWords Go.Proofs.YtclploookcjcbaaDoorW.PrintLast Go.Proofs.YtclploookcjcbaaDoorW.PrintMore
attribute [local go_sem] max2_int min2_int max_two min_two max_three min_three max_four min_four   -- for this text's walks alone
set_option linter.unusedVariables false
set_option linter.unusedSimpArgs false
set_option maxHeartbeats 8000000 in
set_option maxRecDepth 100000 in
theorem mka_calls (xs : List S60) (k : Int) (v : Value) (base : Nat) (ok : Nat → Prop) (w : World) (hr : Kd.R k60 60 w base ok v xs) (hk : 0 ≤ k) (hb : k + 12 * xs.length < 1000000000000000) :
    Calls Tryd.prog 31 #[v, .int .i64 k] w fun e w' => e = .returned (.int .i64 (k + 12 * xs.length)) ∧ ∃ ys, ys.length = xs.length ∧ (∀ j : Nat, j < ys.length → ys[j]? = some (mA (k + 12 * j))) ∧ Kd.R k60 60 w' base ok v ys ∧ OnlyR base ok 60 w w' := by
  have hrr := hr
  obtain ⟨A, cap, rfl⟩ := Kd.R_slice hr
  obtain ⟨-, hl, hC⟩ := Kd.R_reads' hr
  have HM := Aside0.mk hC.2.1
  have HT := Aside0.mk hr
  have HB := Aside0.mk hb
  have HK := Aside0.mk hk
  clear hl hC hr hb hk
  have hu := Tryd.underlying60
  have hu2 := Tryd.underlying29
  go_enter Tryd.func31, Tryd.ntmps31
  go_wp2
  go_loopg [1, 5] xs.length (fun d v1 v5 wr => ∃ i : Nat, v5 = .int .i64 (i : Int) ∧ v1 = .int .i64 (k + 12 * i) ∧ Aside0 (i + d = xs.length) ∧ Aside0 (∃ ys, ys.length = xs.length ∧ (∀ j : Nat, j < i → ys[j]? = some (mA (k + 12 * j))) ∧ Kd.R k60 60 wr base ok (.slice A xs.length cap) ys) ∧ Aside0 (∀ g, A = some ⟨g, 0, none⟩ → OnlyG g w wr) ∧ Aside0 (w.heap.size ≤ wr.heap.size) ∧ Aside0 (i = 0 → wr = w))
  case atStart => exact ⟨0, rfl, by simp, ⟨Nat.zero_add _⟩, ⟨xs, rfl, fun j hj => absurd hj (Nat.not_lt_zero _), HT.out⟩, ⟨fun g _ => OnlyG.refl g w⟩, ⟨Nat.le_refl _⟩, ⟨fun _ => rfl⟩⟩
  case round =>
    obtain ⟨i, rfl, rfl, HD, HY, HG, HS, HZ⟩ := hrel
    have hm := HM.out
    cases gk with
    | zero =>
      have hi : i = xs.length := by have := HD.out; omega
      subst hi
      have c1 : decide ((xs.length : Int) < (xs.length : Int)) = false := decide_eq_false (by omega)
      have c1n : decide (xs.length < xs.length) = false := decide_eq_false (by omega)
      clear hm
      go_wp2
      go_ret
      obtain ⟨ys, hyl, hyy, hyR⟩ := HY.out
      refine ⟨rfl, ys, hyl, fun j hj => hyy j (hyl ▸ hj), hyR, ?_⟩
      by_cases h0 : xs.length = 0
      · rw [HZ.out h0]; exact ⟨none, ⟨rfl, rfl, rfl, Nat.le_refl _, fun _ _ _ => rfl⟩, fun _ e => by simp at e⟩
      · obtain ⟨g, c', he, hbg, -, ht⟩ := Kd.R_form HT.out (by omega)
        injection he with he
        exact ⟨some g, HG.out g he, fun q e => by injection e with e; subst e; exact ⟨hbg, HT.out.1 g (by rw [he]; rfl), ht⟩⟩
    | succ d =>
      have hi : i < xs.length := by have := HD.out; omega
      have c1 : decide ((i : Int) < (xs.length : Int)) = true := decide_eq_true (by omega)
      have c1n : decide (i < xs.length) = true := decide_eq_true hi
      have c2 : decide (0 ≤ (i : Int)) = true := decide_eq_true (by omega)
      obtain ⟨ys, hyl, hyy, hyR⟩ := HY.out
      obtain ⟨g, c', he, -, hgl, -⟩ := Kd.R_form hyR (by omega)
      injection he with he hq hc
      subst he
      subst hc
      clear hq
      have hyR1 := row_open hyR hi z60
      generalize ys.getD i z60 = xx at hyR1
      obtain ⟨a0, a1, ⟨a2, a3, a4, a5, a6⟩, ⟨a7, a8, a9, a10, a11⟩⟩ := xx
      have HI := Aside0.mk hi
      have HR := Aside0.mk hyR1
      have HYL := Aside0.mk hyl
      have HYY := Aside0.mk hyy
      replace HG := Aside0.mk (HG.out g rfl)
      obtain ⟨k0, hk0⟩ : ∃ k0 : Int, k0 = k + 12 * (i : Int) := ⟨_, rfl⟩
      have hb0 : 0 ≤ k0 ∧ k0 + 12 < 1000000000000000 := ⟨by have := HK.out; omega, by have := HB.out; omega⟩
      rw [← hk0]
      obtain ⟨k1, hk1⟩ : ∃ q : Int, q = k0 + 1 := ⟨_, rfl⟩
      obtain ⟨hv1, hb1⟩ := knext (n := 11) hb0 (by decide)
      replace hv1 := hv1.trans hk1.symm
      rw [← hk1] at hb1
      obtain ⟨k2, hk2⟩ : ∃ q : Int, q = k1 + 1 := ⟨_, rfl⟩
      obtain ⟨hv2, hb2⟩ := knext (n := 10) hb1 (by decide)
      replace hv2 := hv2.trans hk2.symm
      rw [← hk2] at hb2
      obtain ⟨k3, hk3⟩ : ∃ q : Int, q = k2 + 1 := ⟨_, rfl⟩
      obtain ⟨hv3, hb3⟩ := knext (n := 9) hb2 (by decide)
      replace hv3 := hv3.trans hk3.symm
      rw [← hk3] at hb3
      obtain ⟨k4, hk4⟩ : ∃ q : Int, q = k3 + 1 := ⟨_, rfl⟩
      obtain ⟨hv4, hb4⟩ := knext (n := 8) hb3 (by decide)
      replace hv4 := hv4.trans hk4.symm
      rw [← hk4] at hb4
      obtain ⟨k5, hk5⟩ : ∃ q : Int, q = k4 + 1 := ⟨_, rfl⟩
      obtain ⟨hv5, hb5⟩ := knext (n := 7) hb4 (by decide)
      replace hv5 := hv5.trans hk5.symm
      rw [← hk5] at hb5
      obtain ⟨k6, hk6⟩ : ∃ q : Int, q = k5 + 1 := ⟨_, rfl⟩
      obtain ⟨hv6, hb6⟩ := knext (n := 6) hb5 (by decide)
      replace hv6 := hv6.trans hk6.symm
      rw [← hk6] at hb6
      obtain ⟨k7, hk7⟩ : ∃ q : Int, q = k6 + 1 := ⟨_, rfl⟩
      obtain ⟨hv7, hb7⟩ := knext (n := 5) hb6 (by decide)
      replace hv7 := hv7.trans hk7.symm
      rw [← hk7] at hb7
      obtain ⟨k8, hk8⟩ : ∃ q : Int, q = k7 + 1 := ⟨_, rfl⟩
      obtain ⟨hv8, hb8⟩ := knext (n := 4) hb7 (by decide)
      replace hv8 := hv8.trans hk8.symm
      rw [← hk8] at hb8
      obtain ⟨k9, hk9⟩ : ∃ q : Int, q = k8 + 1 := ⟨_, rfl⟩
      obtain ⟨hv9, hb9⟩ := knext (n := 3) hb8 (by decide)
      replace hv9 := hv9.trans hk9.symm
      rw [← hk9] at hb9
      obtain ⟨k10, hk10⟩ : ∃ q : Int, q = k9 + 1 := ⟨_, rfl⟩
      obtain ⟨hv10, hb10⟩ := knext (n := 2) hb9 (by decide)
      replace hv10 := hv10.trans hk10.symm
      rw [← hk10] at hb10
      obtain ⟨k11, hk11⟩ : ∃ q : Int, q = k10 + 1 := ⟨_, rfl⟩
      obtain ⟨hv11, hb11⟩ := knext (n := 1) hb10 (by decide)
      replace hv11 := hv11.trans hk11.symm
      rw [← hk11] at hb11
      obtain ⟨k12, hk12⟩ : ∃ q : Int, q = k11 + 1 := ⟨_, rfl⟩
      obtain ⟨hv12, hb12⟩ := knext (n := 0) hb11 (by decide)
      replace hv12 := hv12.trans hk12.symm
      rw [← hk12] at hb12
      have q1 : 0 ≤ (i : Int) := Int.natCast_nonneg i
      have q2 : (i : Int) < (xs.length : Int) := Int.ofNat_lt.2 hi
      have q3 : IntKind.i64.wrap ((i : Int) + 1) = ((i + 1 : Nat) : Int) := inext (Nat.lt_of_lt_of_le hi hm)
      have HL5 : Aside0 (∀ w1, Calls Tryd.prog 30 #[.int .i64 k5] w1 fun e w' => e = .returned (.string (mtx k5)) ∧ Below w1.heap.size w1 w') := ⟨fun w1 => mt_calls k5 (kbound hb5 (by decide)) w1⟩
      have HL10 : Aside0 (∀ w1, Calls Tryd.prog 30 #[.int .i64 k10] w1 fun e w' => e = .returned (.string (mtx k10)) ∧ Below w1.heap.size w1 w') := ⟨fun w1 => mt_calls k10 (kbound hb10 (by decide)) w1⟩
      have HE : Aside0 ((⟨k0, k1, ⟨k2, k3, (floatOfInt .f64 k4), (mtx k5), k6⟩, ⟨k7, k8, (floatOfInt .f64 k9), (mtx k10), k11⟩⟩ : S60) = mA (k + 12 * ((i : Nat) : Int))) := ⟨by rw [← hk0]; simp only [mA, mV, hk1, hk2, hk3, hk4, hk5, hk6, hk7, hk8, hk9, hk10, hk11, hk12, Int.add_assoc, Int.reduceAdd]⟩
      have HN : Aside0 (k12 = k + 12 * ((i + 1 : Nat) : Int)) := ⟨by rw [← kend, ← hk0]; simp only [hk1, hk2, hk3, hk4, hk5, hk6, hk7, hk8, hk9, hk10, hk11, hk12, Int.add_assoc, Int.reduceAdd]⟩
      clear hyR hyR1 hyl hyy HY hm hi hk0 hk1 hk2 hk3 hk4 hk5 hk6 hk7 hk8 hk9 hk10 hk11 hk12 hb0 hb1 hb2 hb3 hb4 hb5 hb6 hb7 hb8 hb9 hb10 hb11 hb12
      obtain ⟨hx, hf⟩ := row_one (s := 12) o60 rfl HR.out HI.out 0 rfl; simp only [Nat.add_zero] at hx hf
      go_upto_region 6 with (fail)
      refine mstep (s := 12) o60 m60 rfl (x' := (⟨k0, a1, ⟨a2, a3, a4, a5, a6⟩, ⟨a7, a8, a9, a10, a11⟩⟩ : S60)) HR.out HI.out HG.out 0 (.int .i64 k0) (by decide) rfl ?_
      clear HR HG hx hf; intro W1 hr hg; have HR := Aside0.mk hr; have HG := Aside0.mk hg; clear hr hg; obtain ⟨hx, hf⟩ := row_one (s := 12) o60 rfl HR.out HI.out 1 rfl
      go_upto_region 8 with (fail)
      refine mstep (s := 12) o60 m60 rfl (x' := (⟨k0, k1, ⟨a2, a3, a4, a5, a6⟩, ⟨a7, a8, a9, a10, a11⟩⟩ : S60)) HR.out HI.out HG.out 1 (.int .i64 k1) (by decide) rfl ?_
      clear HR HG hx hf; intro W1 hr hg; have HR := Aside0.mk hr; have HG := Aside0.mk hg; clear hr hg; obtain ⟨hx, hf⟩ := row_one (s := 12) o60 rfl HR.out HI.out 2 rfl
      go_upto_region 10 with (fail)
      refine mstep (s := 12) o60 m60 rfl (x' := (⟨k0, k1, ⟨k2, a3, a4, a5, a6⟩, ⟨a7, a8, a9, a10, a11⟩⟩ : S60)) HR.out HI.out HG.out 2 (.int .i64 k2) (by decide) rfl ?_
      clear HR HG hx hf; intro W1 hr hg; have HR := Aside0.mk hr; have HG := Aside0.mk hg; clear hr hg; obtain ⟨hx, hf⟩ := row_one (s := 12) o60 rfl HR.out HI.out 3 rfl
      go_upto_region 12 with (fail)
      refine mstep (s := 12) o60 m60 rfl (x' := (⟨k0, k1, ⟨k2, k3, a4, a5, a6⟩, ⟨a7, a8, a9, a10, a11⟩⟩ : S60)) HR.out HI.out HG.out 3 (.int .i64 k3) (by decide) rfl ?_
      clear HR HG hx hf; intro W1 hr hg; have HR := Aside0.mk hr; have HG := Aside0.mk hg; clear hr hg; obtain ⟨hx, hf⟩ := row_one (s := 12) o60 rfl HR.out HI.out 4 rfl
      go_upto_region 14 with (fail)
      refine mstep (s := 12) o60 m60 rfl (x' := (⟨k0, k1, ⟨k2, k3, (floatOfInt .f64 k4), a5, a6⟩, ⟨a7, a8, a9, a10, a11⟩⟩ : S60)) HR.out HI.out HG.out 4 (.float .f64 (floatOfInt .f64 k4)) (by decide) rfl ?_
      clear HR HG hx hf; intro W1 hr hg; have HR := Aside0.mk hr; have HG := Aside0.mk hg; clear hr hg
      go_upto_region 16 with (go_at_call 30; refine (HL5.out _).mono ?_; rintro e w1 ⟨rfl, hb⟩; have HR1 := Aside0.mk (Kd.R_below (w1 := w1) HR.out hb); have HG1 := Aside0.mk (HG.out.below hb); clear hb HR HG; have HR := HR1; have HG := HG1; clear HR1 HG1; obtain ⟨hx, hf⟩ := row_one (s := 12) o60 rfl HR.out HI.out 5 rfl)
      refine mstep (s := 12) o60 m60 rfl (x' := (⟨k0, k1, ⟨k2, k3, (floatOfInt .f64 k4), (mtx k5), a6⟩, ⟨a7, a8, a9, a10, a11⟩⟩ : S60)) HR.out HI.out HG.out 5 (.string (mtx k5)) (by decide) rfl ?_
      clear HR HG hx hf HL5; intro W1 hr hg; have HR := Aside0.mk hr; have HG := Aside0.mk hg; clear hr hg; obtain ⟨hx, hf⟩ := row_one (s := 12) o60 rfl HR.out HI.out 6 rfl
      go_upto_region 18 with (fail)
      refine mstep (s := 12) o60 m60 rfl (x' := (⟨k0, k1, ⟨k2, k3, (floatOfInt .f64 k4), (mtx k5), k6⟩, ⟨a7, a8, a9, a10, a11⟩⟩ : S60)) HR.out HI.out HG.out 6 (.int .i64 k6) (by decide) rfl ?_
      clear HR HG hx hf; intro W1 hr hg; have HR := Aside0.mk hr; have HG := Aside0.mk hg; clear hr hg; obtain ⟨hx, hf⟩ := row_one (s := 12) o60 rfl HR.out HI.out 7 rfl
      go_upto_region 20 with (fail)
      refine mstep (s := 12) o60 m60 rfl (x' := (⟨k0, k1, ⟨k2, k3, (floatOfInt .f64 k4), (mtx k5), k6⟩, ⟨k7, a8, a9, a10, a11⟩⟩ : S60)) HR.out HI.out HG.out 7 (.int .i64 k7) (by decide) rfl ?_
      clear HR HG hx hf; intro W1 hr hg; have HR := Aside0.mk hr; have HG := Aside0.mk hg; clear hr hg; obtain ⟨hx, hf⟩ := row_one (s := 12) o60 rfl HR.out HI.out 8 rfl
      go_upto_region 22 with (fail)
      refine mstep (s := 12) o60 m60 rfl (x' := (⟨k0, k1, ⟨k2, k3, (floatOfInt .f64 k4), (mtx k5), k6⟩, ⟨k7, k8, a9, a10, a11⟩⟩ : S60)) HR.out HI.out HG.out 8 (.int .i64 k8) (by decide) rfl ?_
      clear HR HG hx hf; intro W1 hr hg; have HR := Aside0.mk hr; have HG := Aside0.mk hg; clear hr hg; obtain ⟨hx, hf⟩ := row_one (s := 12) o60 rfl HR.out HI.out 9 rfl
      go_upto_region 24 with (fail)
      refine mstep (s := 12) o60 m60 rfl (x' := (⟨k0, k1, ⟨k2, k3, (floatOfInt .f64 k4), (mtx k5), k6⟩, ⟨k7, k8, (floatOfInt .f64 k9), a10, a11⟩⟩ : S60)) HR.out HI.out HG.out 9 (.float .f64 (floatOfInt .f64 k9)) (by decide) rfl ?_
      clear HR HG hx hf; intro W1 hr hg; have HR := Aside0.mk hr; have HG := Aside0.mk hg; clear hr hg
      go_upto_region 26 with (go_at_call 30; refine (HL10.out _).mono ?_; rintro e w1 ⟨rfl, hb⟩; have HR1 := Aside0.mk (Kd.R_below (w1 := w1) HR.out hb); have HG1 := Aside0.mk (HG.out.below hb); clear hb HR HG; have HR := HR1; have HG := HG1; clear HR1 HG1; obtain ⟨hx, hf⟩ := row_one (s := 12) o60 rfl HR.out HI.out 10 rfl)
      refine mstep (s := 12) o60 m60 rfl (x' := (⟨k0, k1, ⟨k2, k3, (floatOfInt .f64 k4), (mtx k5), k6⟩, ⟨k7, k8, (floatOfInt .f64 k9), (mtx k10), a11⟩⟩ : S60)) HR.out HI.out HG.out 10 (.string (mtx k10)) (by decide) rfl ?_
      clear HR HG hx hf HL10; intro W1 hr hg; have HR := Aside0.mk hr; have HG := Aside0.mk hg; clear hr hg; obtain ⟨hx, hf⟩ := row_one (s := 12) o60 rfl HR.out HI.out 11 rfl
      go_upto_region 3 with (fail)
      refine mstep (s := 12) o60 m60 rfl (x' := (⟨k0, k1, ⟨k2, k3, (floatOfInt .f64 k4), (mtx k5), k6⟩, ⟨k7, k8, (floatOfInt .f64 k9), (mtx k10), k11⟩⟩ : S60)) HR.out HI.out HG.out 11 (.int .i64 k11) (by decide) rfl ?_
      clear HR HG hx hf; intro W1 hr hg; have HR := Aside0.mk hr; have HG := Aside0.mk hg; clear hr hg
      go_wp2
      go_roundg d
      case measure => omega
      case rel =>
        refine ⟨i + 1, by first | rfl | (rw [q3]; done) | simp, by rw [HN.out], ⟨by have := HD.out; omega⟩, ⟨_, by rw [List.length_set]; exact HYL.out, fun j hj => ?_, HR.out⟩, ⟨fun g' e => by injection e with e; injection e with e; subst e; exact HG.out⟩, ⟨HG.out.size⟩, ⟨fun h => absurd h (by omega)⟩⟩
        by_cases hji : j = i
        · subst hji
          rw [List.getElem?_set_self (by rw [HYL.out]; exact HI.out), HE.out]
        · rw [List.getElem?_set_ne (fun e => hji e.symm)]
          exact HYY.out j (by omega)
end Go.Proofs.YtclploookcjcbaaDoor.PIde
namespace Go.Proofs.YtclploookcjcbaaDoor.PIde
open Go.RowKit Go.Proofs.YtclploookcjcbaaDoorW.PrintWords Go.Proofs.YtclploookcjcbaaDoorW.PrintLast Go.Proofs.YtclploookcjcbaaDoorW.PrintMore
attribute [local go_sem] max2_int min2_int max_two min_two max_three min_three max_four min_four   -- for this text's walks alone
set_option linter.unusedVariables false
set_option linter.unusedSimpArgs false
set_option maxHeartbeats 8000000 in
set_option maxRecDepth 100000 in
theorem mkx_calls (xs : List S31) (k : Int) (v : Value) (base : Nat) (ok : Nat → Prop) (w : World) (hr : Kd.R k31 31 w base ok v xs) (hk : 0 ≤ k) (hb : k + 14 * xs.length < 1000000000000000) :
    Calls Tryd.prog 15 #[v, .int .i64 k] w fun e w' => e = .returned (.int .i64 (k + 14 * xs.length)) ∧ ∃ ys, ys.length = xs.length ∧ (∀ j : Nat, j < ys.length → ys[j]? = some (mX (k + 14 * j))) ∧ Kd.R k31 31 w' base ok v ys ∧ OnlyR base ok 31 w w' := by
  have hrr := hr
  obtain ⟨A, cap, rfl⟩ := Kd.R_slice hr
  obtain ⟨-, hl, hC⟩ := Kd.R_reads' hr
  have HM := Aside0.mk hC.2.1
  have HT := Aside0.mk hr
  have HB := Aside0.mk hb
  have HK := Aside0.mk hk
  clear hl hC hr hb hk
  have hu := Tryd.underlying31
  have hu2 := Tryd.underlying29
  go_enter Tryd.func15, Tryd.ntmps15
  go_wp2
  go_loopg [1, 5] xs.length (fun d v1 v5 wr => ∃ i : Nat, v5 = .int .i64 (i : Int) ∧ v1 = .int .i64 (k + 14 * i) ∧ Aside0 (i + d = xs.length) ∧ Aside0 (∃ ys, ys.length = xs.length ∧ (∀ j : Nat, j < i → ys[j]? = some (mX (k + 14 * j))) ∧ Kd.R k31 31 wr base ok (.slice A xs.length cap) ys) ∧ Aside0 (∀ g, A = some ⟨g, 0, none⟩ → OnlyG g w wr) ∧ Aside0 (w.heap.size ≤ wr.heap.size) ∧ Aside0 (i = 0 → wr = w))
  case atStart => exact ⟨0, rfl, by simp, ⟨Nat.zero_add _⟩, ⟨xs, rfl, fun j hj => absurd hj (Nat.not_lt_zero _), HT.out⟩, ⟨fun g _ => OnlyG.refl g w⟩, ⟨Nat.le_refl _⟩, ⟨fun _ => rfl⟩⟩
  case round =>
    obtain ⟨i, rfl, rfl, HD, HY, HG, HS, HZ⟩ := hrel
    have hm := HM.out
    cases gk with
    | zero =>
      have hi : i = xs.length := by have := HD.out; omega
      subst hi
      have c1 : decide ((xs.length : Int) < (xs.length : Int)) = false := decide_eq_false (by omega)
      have c1n : decide (xs.length < xs.length) = false := decide_eq_false (by omega)
      clear hm
      go_wp2
      go_ret
      obtain ⟨ys, hyl, hyy, hyR⟩ := HY.out
      refine ⟨rfl, ys, hyl, fun j hj => hyy j (hyl ▸ hj), hyR, ?_⟩
      by_cases h0 : xs.length = 0
      · rw [HZ.out h0]; exact ⟨none, ⟨rfl, rfl, rfl, Nat.le_refl _, fun _ _ _ => rfl⟩, fun _ e => by simp at e⟩
      · obtain ⟨g, c', he, hbg, -, ht⟩ := Kd.R_form HT.out (by omega)
        injection he with he
        exact ⟨some g, HG.out g he, fun q e => by injection e with e; subst e; exact ⟨hbg, HT.out.1 g (by rw [he]; rfl), ht⟩⟩
    | succ d =>
      have hi : i < xs.length := by have := HD.out; omega
      have c1 : decide ((i : Int) < (xs.length : Int)) = true := decide_eq_true (by omega)
      have c1n : decide (i < xs.length) = true := decide_eq_true hi
      have c2 : decide (0 ≤ (i : Int)) = true := decide_eq_true (by omega)
      obtain ⟨ys, hyl, hyy, hyR⟩ := HY.out
      obtain ⟨g, c', he, -, hgl, -⟩ := Kd.R_form hyR (by omega)
      injection he with he hq hc
      subst he
      subst hc
      clear hq
      have hyR1 := row_open hyR hi z31
      generalize ys.getD i z31 = xx at hyR1
      obtain ⟨a0, a1, a2, a3, ⟨a4, a5, a6, a7, a8⟩, ⟨a9, a10, a11, a12, a13⟩⟩ := xx
      have HI := Aside0.mk hi
      have HR := Aside0.mk hyR1
      have HYL := Aside0.mk hyl
      have HYY := Aside0.mk hyy
      replace HG := Aside0.mk (HG.out g rfl)
      obtain ⟨k0, hk0⟩ : ∃ k0 : Int, k0 = k + 14 * (i : Int) := ⟨_, rfl⟩
      have hb0 : 0 ≤ k0 ∧ k0 + 14 < 1000000000000000 := ⟨by have := HK.out; omega, by have := HB.out; omega⟩
      rw [← hk0]
      obtain ⟨k1, hk1⟩ : ∃ q : Int, q = k0 + 1 := ⟨_, rfl⟩
      obtain ⟨hv1, hb1⟩ := knext (n := 13) hb0 (by decide)
      replace hv1 := hv1.trans hk1.symm
      rw [← hk1] at hb1
      obtain ⟨k2, hk2⟩ : ∃ q : Int, q = k1 + 1 := ⟨_, rfl⟩
      obtain ⟨hv2, hb2⟩ := knext (n := 12) hb1 (by decide)
      replace hv2 := hv2.trans hk2.symm
      rw [← hk2] at hb2
      obtain ⟨k3, hk3⟩ : ∃ q : Int, q = k2 + 1 := ⟨_, rfl⟩
      obtain ⟨hv3, hb3⟩ := knext (n := 11) hb2 (by decide)
      replace hv3 := hv3.trans hk3.symm
      rw [← hk3] at hb3
      obtain ⟨k4, hk4⟩ : ∃ q : Int, q = k3 + 1 := ⟨_, rfl⟩
      obtain ⟨hv4, hb4⟩ := knext (n := 10) hb3 (by decide)
      replace hv4 := hv4.trans hk4.symm
      rw [← hk4] at hb4
      obtain ⟨k5, hk5⟩ : ∃ q : Int, q = k4 + 1 := ⟨_, rfl⟩
      obtain ⟨hv5, hb5⟩ := knext (n := 9) hb4 (by decide)
      replace hv5 := hv5.trans hk5.symm
      rw [← hk5] at hb5
      obtain ⟨k6, hk6⟩ : ∃ q : Int, q = k5 + 1 := ⟨_, rfl⟩
      obtain ⟨hv6, hb6⟩ := knext (n := 8) hb5 (by decide)
      replace hv6 := hv6.trans hk6.symm
      rw [← hk6] at hb6
      obtain ⟨k7, hk7⟩ : ∃ q : Int, q = k6 + 1 := ⟨_, rfl⟩
      obtain ⟨hv7, hb7⟩ := knext (n := 7) hb6 (by decide)
      replace hv7 := hv7.trans hk7.symm
      rw [← hk7] at hb7
      obtain ⟨k8, hk8⟩ : ∃ q : Int, q = k7 + 1 := ⟨_, rfl⟩
      obtain ⟨hv8, hb8⟩ := knext (n := 6) hb7 (by decide)
      replace hv8 := hv8.trans hk8.symm
      rw [← hk8] at hb8
      obtain ⟨k9, hk9⟩ : ∃ q : Int, q = k8 + 1 := ⟨_, rfl⟩
      obtain ⟨hv9, hb9⟩ := knext (n := 5) hb8 (by decide)
      replace hv9 := hv9.trans hk9.symm
      rw [← hk9] at hb9
      obtain ⟨k10, hk10⟩ : ∃ q : Int, q = k9 + 1 := ⟨_, rfl⟩
      obtain ⟨hv10, hb10⟩ := knext (n := 4) hb9 (by decide)
      replace hv10 := hv10.trans hk10.symm
      rw [← hk10] at hb10
      obtain ⟨k11, hk11⟩ : ∃ q : Int, q = k10 + 1 := ⟨_, rfl⟩
      obtain ⟨hv11, hb11⟩ := knext (n := 3) hb10 (by decide)
      replace hv11 := hv11.trans hk11.symm
      rw [← hk11] at hb11
      obtain ⟨k12, hk12⟩ : ∃ q : Int, q = k11 + 1 := ⟨_, rfl⟩
      obtain ⟨hv12, hb12⟩ := knext (n := 2) hb11 (by decide)
      replace hv12 := hv12.trans hk12.symm
      rw [← hk12] at hb12
      obtain ⟨k13, hk13⟩ : ∃ q : Int, q = k12 + 1 := ⟨_, rfl⟩
      obtain ⟨hv13, hb13⟩ := knext (n := 1) hb12 (by decide)
      replace hv13 := hv13.trans hk13.symm
      rw [← hk13] at hb13
      obtain ⟨k14, hk14⟩ : ∃ q : Int, q = k13 + 1 := ⟨_, rfl⟩
      obtain ⟨hv14, hb14⟩ := knext (n := 0) hb13 (by decide)
      replace hv14 := hv14.trans hk14.symm
      rw [← hk14] at hb14
      have q1 : 0 ≤ (i : Int) := Int.natCast_nonneg i
      have q2 : (i : Int) < (xs.length : Int) := Int.ofNat_lt.2 hi
      have q3 : IntKind.i64.wrap ((i : Int) + 1) = ((i + 1 : Nat) : Int) := inext (Nat.lt_of_lt_of_le hi hm)
      have HL7 : Aside0 (∀ w1, Calls Tryd.prog 30 #[.int .i64 k7] w1 fun e w' => e = .returned (.string (mtx k7)) ∧ Below w1.heap.size w1 w') := ⟨fun w1 => mt_calls k7 (kbound hb7 (by decide)) w1⟩
      have HL12 : Aside0 (∀ w1, Calls Tryd.prog 30 #[.int .i64 k12] w1 fun e w' => e = .returned (.string (mtx k12)) ∧ Below w1.heap.size w1 w') := ⟨fun w1 => mt_calls k12 (kbound hb12 (by decide)) w1⟩
      have HE : Aside0 ((⟨k0, k1, k2, k3, ⟨k4, k5, (floatOfInt .f64 k6), (mtx k7), k8⟩, ⟨k9, k10, (floatOfInt .f64 k11), (mtx k12), k13⟩⟩ : S31) = mX (k + 14 * ((i : Nat) : Int))) := ⟨by rw [← hk0]; simp only [mX, mV, hk1, hk2, hk3, hk4, hk5, hk6, hk7, hk8, hk9, hk10, hk11, hk12, hk13, hk14, Int.add_assoc, Int.reduceAdd]⟩
      have HN : Aside0 (k14 = k + 14 * ((i + 1 : Nat) : Int)) := ⟨by rw [← kend, ← hk0]; simp only [hk1, hk2, hk3, hk4, hk5, hk6, hk7, hk8, hk9, hk10, hk11, hk12, hk13, hk14, Int.add_assoc, Int.reduceAdd]⟩
      clear hyR hyR1 hyl hyy HY hm hi hk0 hk1 hk2 hk3 hk4 hk5 hk6 hk7 hk8 hk9 hk10 hk11 hk12 hk13 hk14 hb0 hb1 hb2 hb3 hb4 hb5 hb6 hb7 hb8 hb9 hb10 hb11 hb12 hb13 hb14
      obtain ⟨hx, hf⟩ := row_one (s := 14) o31 rfl HR.out HI.out 0 rfl; simp only [Nat.add_zero] at hx hf
      go_upto_region 6 with (fail)
      refine mstep (s := 14) o31 m31 rfl (x' := (⟨k0, a1, a2, a3, ⟨a4, a5, a6, a7, a8⟩, ⟨a9, a10, a11, a12, a13⟩⟩ : S31)) HR.out HI.out HG.out 0 (.int .i64 k0) (by decide) rfl ?_
      clear HR HG hx hf; intro W1 hr hg; have HR := Aside0.mk hr; have HG := Aside0.mk hg; clear hr hg; obtain ⟨hx, hf⟩ := row_one (s := 14) o31 rfl HR.out HI.out 1 rfl
      go_upto_region 8 with (fail)
      refine mstep (s := 14) o31 m31 rfl (x' := (⟨k0, k1, a2, a3, ⟨a4, a5, a6, a7, a8⟩, ⟨a9, a10, a11, a12, a13⟩⟩ : S31)) HR.out HI.out HG.out 1 (.int .i64 k1) (by decide) rfl ?_
      clear HR HG hx hf; intro W1 hr hg; have HR := Aside0.mk hr; have HG := Aside0.mk hg; clear hr hg; obtain ⟨hx, hf⟩ := row_one (s := 14) o31 rfl HR.out HI.out 2 rfl
      go_upto_region 10 with (fail)
      refine mstep (s := 14) o31 m31 rfl (x' := (⟨k0, k1, k2, a3, ⟨a4, a5, a6, a7, a8⟩, ⟨a9, a10, a11, a12, a13⟩⟩ : S31)) HR.out HI.out HG.out 2 (.int .i64 k2) (by decide) rfl ?_
      clear HR HG hx hf; intro W1 hr hg; have HR := Aside0.mk hr; have HG := Aside0.mk hg; clear hr hg; obtain ⟨hx, hf⟩ := row_one (s := 14) o31 rfl HR.out HI.out 3 rfl
      go_upto_region 12 with (fail)
      refine mstep (s := 14) o31 m31 rfl (x' := (⟨k0, k1, k2, k3, ⟨a4, a5, a6, a7, a8⟩, ⟨a9, a10, a11, a12, a13⟩⟩ : S31)) HR.out HI.out HG.out 3 (.int .i64 k3) (by decide) rfl ?_
      clear HR HG hx hf; intro W1 hr hg; have HR := Aside0.mk hr; have HG := Aside0.mk hg; clear hr hg; obtain ⟨hx, hf⟩ := row_one (s := 14) o31 rfl HR.out HI.out 4 rfl
      go_upto_region 14 with (fail)
      refine mstep (s := 14) o31 m31 rfl (x' := (⟨k0, k1, k2, k3, ⟨k4, a5, a6, a7, a8⟩, ⟨a9, a10, a11, a12, a13⟩⟩ : S31)) HR.out HI.out HG.out 4 (.int .i64 k4) (by decide) rfl ?_
      clear HR HG hx hf; intro W1 hr hg; have HR := Aside0.mk hr; have HG := Aside0.mk hg; clear hr hg; obtain ⟨hx, hf⟩ := row_one (s := 14) o31 rfl HR.out HI.out 5 rfl
      go_upto_region 16 with (fail)
      refine mstep (s := 14) o31 m31 rfl (x' := (⟨k0, k1, k2, k3, ⟨k4, k5, a6, a7, a8⟩, ⟨a9, a10, a11, a12, a13⟩⟩ : S31)) HR.out HI.out HG.out 5 (.int .i64 k5) (by decide) rfl ?_
      clear HR HG hx hf; intro W1 hr hg; have HR := Aside0.mk hr; have HG := Aside0.mk hg; clear hr hg; obtain ⟨hx, hf⟩ := row_one (s := 14) o31 rfl HR.out HI.out 6 rfl
      go_upto_region 18 with (fail)
      refine mstep (s := 14) o31 m31 rfl (x' := (⟨k0, k1, k2, k3, ⟨k4, k5, (floatOfInt .f64 k6), a7, a8⟩, ⟨a9, a10, a11, a12, a13⟩⟩ : S31)) HR.out HI.out HG.out 6 (.float .f64 (floatOfInt .f64 k6)) (by decide) rfl ?_
      clear HR HG hx hf; intro W1 hr hg; have HR := Aside0.mk hr; have HG := Aside0.mk hg; clear hr hg
      go_upto_region 20 with (go_at_call 30; refine (HL7.out _).mono ?_; rintro e w1 ⟨rfl, hb⟩; have HR1 := Aside0.mk (Kd.R_below (w1 := w1) HR.out hb); have HG1 := Aside0.mk (HG.out.below hb); clear hb HR HG; have HR := HR1; have HG := HG1; clear HR1 HG1; obtain ⟨hx, hf⟩ := row_one (s := 14) o31 rfl HR.out HI.out 7 rfl)
      refine mstep (s := 14) o31 m31 rfl (x' := (⟨k0, k1, k2, k3, ⟨k4, k5, (floatOfInt .f64 k6), (mtx k7), a8⟩, ⟨a9, a10, a11, a12, a13⟩⟩ : S31)) HR.out HI.out HG.out 7 (.string (mtx k7)) (by decide) rfl ?_
      clear HR HG hx hf HL7; intro W1 hr hg; have HR := Aside0.mk hr; have HG := Aside0.mk hg; clear hr hg; obtain ⟨hx, hf⟩ := row_one (s := 14) o31 rfl HR.out HI.out 8 rfl
      go_upto_region 22 with (fail)
      refine mstep (s := 14) o31 m31 rfl (x' := (⟨k0, k1, k2, k3, ⟨k4, k5, (floatOfInt .f64 k6), (mtx k7), k8⟩, ⟨a9, a10, a11, a12, a13⟩⟩ : S31)) HR.out HI.out HG.out 8 (.int .i64 k8) (by decide) rfl ?_
      clear HR HG hx hf; intro W1 hr hg; have HR := Aside0.mk hr; have HG := Aside0.mk hg; clear hr hg; obtain ⟨hx, hf⟩ := row_one (s := 14) o31 rfl HR.out HI.out 9 rfl
      go_upto_region 24 with (fail)
      refine mstep (s := 14) o31 m31 rfl (x' := (⟨k0, k1, k2, k3, ⟨k4, k5, (floatOfInt .f64 k6), (mtx k7), k8⟩, ⟨k9, a10, a11, a12, a13⟩⟩ : S31)) HR.out HI.out HG.out 9 (.int .i64 k9) (by decide) rfl ?_
      clear HR HG hx hf; intro W1 hr hg; have HR := Aside0.mk hr; have HG := Aside0.mk hg; clear hr hg; obtain ⟨hx, hf⟩ := row_one (s := 14) o31 rfl HR.out HI.out 10 rfl
      go_upto_region 26 with (fail)
      refine mstep (s := 14) o31 m31 rfl (x' := (⟨k0, k1, k2, k3, ⟨k4, k5, (floatOfInt .f64 k6), (mtx k7), k8⟩, ⟨k9, k10, a11, a12, a13⟩⟩ : S31)) HR.out HI.out HG.out 10 (.int .i64 k10) (by decide) rfl ?_
      clear HR HG hx hf; intro W1 hr hg; have HR := Aside0.mk hr; have HG := Aside0.mk hg; clear hr hg; obtain ⟨hx, hf⟩ := row_one (s := 14) o31 rfl HR.out HI.out 11 rfl
      go_upto_region 28 with (fail)
      refine mstep (s := 14) o31 m31 rfl (x' := (⟨k0, k1, k2, k3, ⟨k4, k5, (floatOfInt .f64 k6), (mtx k7), k8⟩, ⟨k9, k10, (floatOfInt .f64 k11), a12, a13⟩⟩ : S31)) HR.out HI.out HG.out 11 (.float .f64 (floatOfInt .f64 k11)) (by decide) rfl ?_
      clear HR HG hx hf; intro W1 hr hg; have HR := Aside0.mk hr; have HG := Aside0.mk hg; clear hr hg
      go_upto_region 30 with (go_at_call 30; refine (HL12.out _).mono ?_; rintro e w1 ⟨rfl, hb⟩; have HR1 := Aside0.mk (Kd.R_below (w1 := w1) HR.out hb); have HG1 := Aside0.mk (HG.out.below hb); clear hb HR HG; have HR := HR1; have HG := HG1; clear HR1 HG1; obtain ⟨hx, hf⟩ := row_one (s := 14) o31 rfl HR.out HI.out 12 rfl)
      refine mstep (s := 14) o31 m31 rfl (x' := (⟨k0, k1, k2, k3, ⟨k4, k5, (floatOfInt .f64 k6), (mtx k7), k8⟩, ⟨k9, k10, (floatOfInt .f64 k11), (mtx k12), a13⟩⟩ : S31)) HR.out HI.out HG.out 12 (.string (mtx k12)) (by decide) rfl ?_
      clear HR HG hx hf HL12; intro W1 hr hg; have HR := Aside0.mk hr; have HG := Aside0.mk hg; clear hr hg; obtain ⟨hx, hf⟩ := row_one (s := 14) o31 rfl HR.out HI.out 13 rfl
      go_upto_region 3 with (fail)
      refine mstep (s := 14) o31 m31 rfl (x' := (⟨k0, k1, k2, k3, ⟨k4, k5, (floatOfInt .f64 k6), (mtx k7), k8⟩, ⟨k9, k10, (floatOfInt .f64 k11), (mtx k12), k13⟩⟩ : S31)) HR.out HI.out HG.out 13 (.int .i64 k13) (by decide) rfl ?_
      clear HR HG hx hf; intro W1 hr hg; have HR := Aside0.mk hr; have HG := Aside0.mk hg; clear hr hg
      go_wp2
      go_roundg d
      case measure => omega
      case rel =>
        refine ⟨i + 1, by first | rfl | (rw [q3]; done) | simp, by rw [HN.out], ⟨by have := HD.out; omega⟩, ⟨_, by rw [List.length_set]; exact HYL.out, fun j hj => ?_, HR.out⟩, ⟨fun g' e => by injection e with e; injection e with e; subst e; exact HG.out⟩, ⟨HG.out.size⟩, ⟨fun h => absurd h (by omega)⟩⟩
        by_cases hji : j = i
        · subst hji
          rw [List.getElem?_set_self (by rw [HYL.out]; exact HI.out), HE.out]
        · rw [List.getElem?_set_ne (fun e => hji e.symm)]
          exact HYY.out j (by omega)
end Go.Proofs.YtclploookcjcbaaDoor.PIde
namespace Go.Proofs.YtclploookcjcbaaDoor.PIde
open Go.RowKit Go.Proofs.YtclploookcjcbaaDoorW.PrintWords Go.Proofs.YtclploookcjcbaaDoorW.PrintLast Go.Proofs.YtclploookcjcbaaDoorW.PrintMore Go.Proofs.YtclploookcjcbaaDoorW.FltL
attribute [local go_sem] max2_int min2_int max_two min_two max_three min_three max_four min_four   -- for this text's walks alone
set_option linter.unusedVariables false
set_option linter.unusedSimpArgs false
/-- A call that answers true and only makes memory. -/
def Yes (w : World) (e : Ending) (w' : World) : Prop := e = .returned (.bool true) ∧ Below w.heap.size w w'
theorem eqf_calls (a : Nat) (w : World) : Calls Tryd.prog 61 #[.float .f64 a, .float .f64 a] w fun e w' => e = .returned (.bool true) ∧ w' = w := by
  cases h1 : feq a a
  rotate_left
  cases h0 : feq a 0
  rotate_left
  have hq := quo_zero h0
  rotate_left
  all_goals
    go_enter Tryd.func61, Tryd.ntmps61
    go_wp2
    go_ret
    exact ⟨by simp [*], rfl⟩
set_option maxHeartbeats 2000000 in
set_option maxRecDepth 100000 in
theorem eqv_calls (v : S29) (w : World) : Calls Tryd.prog 48 #[.agg (vc v).toArray, .agg (vc v).toArray] w (Yes w) := by
  obtain ⟨a0, a1, a2, a3, a4⟩ := v
  unfold vc
  simp only []
  have hu := Tryd.underlying29
  go_enter Tryd.func48, Tryd.ntmps48
  go_wp2_with (go_at_call 61; refine (eqf_calls _ _).mono ?_; rintro e w' ⟨rfl, rfl⟩)
  go_ret
  exact ⟨rfl, below_alloc (below_alloc (Below.refl _ _) _) _⟩
set_option maxHeartbeats 4000000 in
set_option maxRecDepth 100000 in
theorem eqa_calls (x : S60) (w : World) : Calls Tryd.prog 46 #[.agg (anc x).toArray, .agg (anc x).toArray] w (Yes w) := by
  obtain ⟨a0, a1, ⟨a2, a3, a4, a5, a6⟩, ⟨a7, a8, a9, a10, a11⟩⟩ := x
  unfold anc vc
  simp only [List.cons_append, List.nil_append]
  have hu := Tryd.underlying29
  have hu2 := Tryd.underlying60
  have HB := Aside0.mk (below_alloc (below_alloc (Below.refl w.heap.size w) (.cells #[.int .i64 a0, .int .i64 a1, .int .i64 a2, .int .i64 a3, .float .f64 a4, .string a5, .int .i64 a6, .int .i64 a7, .int .i64 a8, .float .f64 a9, .string a10, .int .i64 a11] 60)) (.cells #[.int .i64 a0, .int .i64 a1, .int .i64 a2, .int .i64 a3, .float .f64 a4, .string a5, .int .i64 a6, .int .i64 a7, .int .i64 a8, .float .f64 a9, .string a10, .int .i64 a11] 60))
  have BA := Aside0.mk (heap_alloc2_old w (.cells #[.int .i64 a0, .int .i64 a1, .int .i64 a2, .int .i64 a3, .float .f64 a4, .string a5, .int .i64 a6, .int .i64 a7, .int .i64 a8, .float .f64 a9, .string a10, .int .i64 a11] 60) (.cells #[.int .i64 a0, .int .i64 a1, .int .i64 a2, .int .i64 a3, .float .f64 a4, .string a5, .int .i64 a6, .int .i64 a7, .int .i64 a8, .float .f64 a9, .string a10, .int .i64 a11] 60))
  have BB := Aside0.mk (heap_alloc2_new w (.cells #[.int .i64 a0, .int .i64 a1, .int .i64 a2, .int .i64 a3, .float .f64 a4, .string a5, .int .i64 a6, .int .i64 a7, .int .i64 a8, .float .f64 a9, .string a10, .int .i64 a11] 60) (.cells #[.int .i64 a0, .int .i64 a1, .int .i64 a2, .int .i64 a3, .float .f64 a4, .string a5, .int .i64 a6, .int .i64 a7, .int .i64 a8, .float .f64 a9, .string a10, .int .i64 a11] 60))
  go_enter Tryd.func46, Tryd.ntmps46
  go_wp2_with (go_at_call 48; refine (eqv_calls ⟨_, _, _, _, _⟩ _).mono ?_; rintro e w' ⟨rfl, hb⟩; have nB := Aside0.mk (below_step HB.out hb); have nA := Aside0.mk (blk_below BA.out hb); have nC := Aside0.mk (blk_below BB.out hb); clear HB BA BB hb; have HB := nB; have BA := nA; have BB := nC; clear nB nA nC; obtain ⟨⟨y0, y1, y2, y3, y4, y5, y6, y7, y8, y9, y10, y11⟩, -⟩ := c12 BA.out; obtain ⟨⟨z0, z1, z2, z3, z4, z5, z6, z7, z8, z9, z10, z11⟩, -⟩ := c12 BB.out)
  go_ret
  exact ⟨rfl, HB.out⟩
theorem c11 {w : World} {g : Nat} {t : TypeId} {x0 x1 x2 x3 x4 x5 x6 x7 x8 x9 x10 : Value} (h : w.heap[g]? = some (.cells #[x0, x1, x2, x3, x4, x5, x6, x7, x8, x9, x10] t (0, 0))) : w.cell? ⟨g, 0, none⟩ = some x0 ∧ w.cell? ⟨g, 1, none⟩ = some x1 ∧ w.cell? ⟨g, 2, none⟩ = some x2 ∧ w.cell? ⟨g, 3, none⟩ = some x3 ∧ w.cell? ⟨g, 4, none⟩ = some x4 ∧ w.cell? ⟨g, 5, none⟩ = some x5 ∧ w.cell? ⟨g, 6, none⟩ = some x6 ∧ w.cell? ⟨g, 7, none⟩ = some x7 ∧ w.cell? ⟨g, 8, none⟩ = some x8 ∧ w.cell? ⟨g, 9, none⟩ = some x9 ∧ w.cell? ⟨g, 10, none⟩ = some x10 := by
  have e := fun j => blk_cell h j
  refine ⟨?_, ?_, ?_, ?_, ?_, ?_, ?_, ?_, ?_, ?_, ?_⟩ <;> rw [e] <;> rfl
set_option maxHeartbeats 4000000 in
set_option maxRecDepth 100000 in
theorem eqp_calls (x : S88) (w : World) : Calls Tryd.prog 66 #[.agg (pc x).toArray, .agg (pc x).toArray] w (Yes w) := by
  obtain ⟨⟨a0, a1, a2, a3, a4⟩, ⟨a5, a6, a7, a8, a9⟩, a10⟩ := x
  unfold pc vc
  simp only [List.cons_append, List.nil_append]
  have hu := Tryd.underlying29
  have hu2 := Tryd.underlying88
  have HB := Aside0.mk (below_alloc (below_alloc (Below.refl w.heap.size w) (.cells #[.int .i64 a0, .int .i64 a1, .float .f64 a2, .string a3, .int .i64 a4, .int .i64 a5, .int .i64 a6, .float .f64 a7, .string a8, .int .i64 a9, .int .i64 a10] 88)) (.cells #[.int .i64 a0, .int .i64 a1, .float .f64 a2, .string a3, .int .i64 a4, .int .i64 a5, .int .i64 a6, .float .f64 a7, .string a8, .int .i64 a9, .int .i64 a10] 88))
  have BA := Aside0.mk (heap_alloc2_old w (.cells #[.int .i64 a0, .int .i64 a1, .float .f64 a2, .string a3, .int .i64 a4, .int .i64 a5, .int .i64 a6, .float .f64 a7, .string a8, .int .i64 a9, .int .i64 a10] 88) (.cells #[.int .i64 a0, .int .i64 a1, .float .f64 a2, .string a3, .int .i64 a4, .int .i64 a5, .int .i64 a6, .float .f64 a7, .string a8, .int .i64 a9, .int .i64 a10] 88))
  have BB := Aside0.mk (heap_alloc2_new w (.cells #[.int .i64 a0, .int .i64 a1, .float .f64 a2, .string a3, .int .i64 a4, .int .i64 a5, .int .i64 a6, .float .f64 a7, .string a8, .int .i64 a9, .int .i64 a10] 88) (.cells #[.int .i64 a0, .int .i64 a1, .float .f64 a2, .string a3, .int .i64 a4, .int .i64 a5, .int .i64 a6, .float .f64 a7, .string a8, .int .i64 a9, .int .i64 a10] 88))
  go_enter Tryd.func66, Tryd.ntmps66
  go_wp2_with (go_at_call 48; refine (eqv_calls ⟨_, _, _, _, _⟩ _).mono ?_; rintro e w' ⟨rfl, hb⟩; have nB := Aside0.mk (below_step HB.out hb); have nA := Aside0.mk (blk_below BA.out hb); have nC := Aside0.mk (blk_below BB.out hb); clear HB BA BB hb; have HB := nB; have BA := nA; have BB := nC; clear nB nA nC; obtain ⟨y0, y1, y2, y3, y4, y5, y6, y7, y8, y9, y10⟩ := c11 BA.out; obtain ⟨z0, z1, z2, z3, z4, z5, z6, z7, z8, z9, z10⟩ := c11 BB.out)
  go_ret
  exact ⟨rfl, HB.out⟩
set_option maxHeartbeats 4000000 in
set_option maxRecDepth 100000 in
theorem eqx_calls (x : S31) (w : World) : Calls Tryd.prog 29 #[.agg (ac x).toArray, .agg (ac x).toArray] w (Yes w) := by
  obtain ⟨a0, a1, a2, a3, ⟨a4, a5, a6, a7, a8⟩, ⟨a9, a10, a11, a12, a13⟩⟩ := x
  unfold ac vc
  simp only [List.cons_append, List.nil_append]
  have hu := Tryd.underlying29
  have hu2 := Tryd.underlying31
  have HB := Aside0.mk (below_alloc (below_alloc (Below.refl w.heap.size w) (.cells #[.int .i64 a0, .int .i64 a1, .int .i64 a2, .int .i64 a3, .int .i64 a4, .int .i64 a5, .float .f64 a6, .string a7, .int .i64 a8, .int .i64 a9, .int .i64 a10, .float .f64 a11, .string a12, .int .i64 a13] 31)) (.cells #[.int .i64 a0, .int .i64 a1, .int .i64 a2, .int .i64 a3, .int .i64 a4, .int .i64 a5, .float .f64 a6, .string a7, .int .i64 a8, .int .i64 a9, .int .i64 a10, .float .f64 a11, .string a12, .int .i64 a13] 31))
  have BA := Aside0.mk (heap_alloc2_old w (.cells #[.int .i64 a0, .int .i64 a1, .int .i64 a2, .int .i64 a3, .int .i64 a4, .int .i64 a5, .float .f64 a6, .string a7, .int .i64 a8, .int .i64 a9, .int .i64 a10, .float .f64 a11, .string a12, .int .i64 a13] 31) (.cells #[.int .i64 a0, .int .i64 a1, .int .i64 a2, .int .i64 a3, .int .i64 a4, .int .i64 a5, .float .f64 a6, .string a7, .int .i64 a8, .int .i64 a9, .int .i64 a10, .float .f64 a11, .string a12, .int .i64 a13] 31))
  have BB := Aside0.mk (heap_alloc2_new w (.cells #[.int .i64 a0, .int .i64 a1, .int .i64 a2, .int .i64 a3, .int .i64 a4, .int .i64 a5, .float .f64 a6, .string a7, .int .i64 a8, .int .i64 a9, .int .i64 a10, .float .f64 a11, .string a12, .int .i64 a13] 31) (.cells #[.int .i64 a0, .int .i64 a1, .int .i64 a2, .int .i64 a3, .int .i64 a4, .int .i64 a5, .float .f64 a6, .string a7, .int .i64 a8, .int .i64 a9, .int .i64 a10, .float .f64 a11, .string a12, .int .i64 a13] 31))
  go_enter Tryd.func29, Tryd.ntmps29
  go_wp2_with (go_at_call 48; refine (eqv_calls ⟨_, _, _, _, _⟩ _).mono ?_; rintro e w' ⟨rfl, hb⟩; have nB := Aside0.mk (below_step HB.out hb); have nA := Aside0.mk (blk_below BA.out hb); have nC := Aside0.mk (blk_below BB.out hb); clear HB BA BB hb; have HB := nB; have BA := nA; have BB := nC; clear nB nA nC; obtain ⟨y0, y1, y2, y3, y4, y5, y6, y7, y8, y9, y10, y11, y12, y13⟩ := c14 BA.out; obtain ⟨z0, z1, z2, z3, z4, z5, z6, z7, z8, z9, z10, z11, z12, z13⟩ := c14 BB.out)
  go_ret
  exact ⟨rfl, HB.out⟩
set_option maxHeartbeats 8000000 in
set_option maxRecDepth 100000 in
theorem eqas_calls (xs : List S60) (A B : Option Addr) (c d : Nat) (w : World) (ha : Kd.C k60 w A xs.length xs) (hb : Kd.C k60 w B xs.length xs) : Calls Tryd.prog 27 #[.slice A xs.length c, .slice B xs.length d] w (Yes w) := by
  have HA := Aside0.mk ha
  have HB := Aside0.mk hb
  have HM := Aside0.mk ha.2.1
  have HQ := Aside0.mk (Below.refl w.heap.size w)
  clear ha hb
  have hu := Tryd.underlying60
  go_enter Tryd.func27, Tryd.ntmps27
  go_wp2
  go_loopg [5] xs.length (fun k v5 wr => ∃ i : Nat, v5 = .int .i64 (i : Int) ∧ Aside0 (i + k = xs.length) ∧ Aside0 (Below w.heap.size w wr))
  case atStart => exact ⟨0, rfl, ⟨Nat.zero_add _⟩, HQ⟩
  case round =>
    clear HQ
    obtain ⟨i, rfl, HD, HQ⟩ := hrel
    have hm := HM.out
    cases gk with
    | zero =>
      have c1 : decide ((i : Int) < (xs.length : Int)) = false := decide_eq_false (by have := HD.out; omega)
      have c1n : decide (i < xs.length) = false := decide_eq_false (by have := HD.out; omega)
      clear hm
      go_wp2
      go_ret
      exact ⟨rfl, HQ.out⟩
    | succ k =>
      have hi : i < xs.length := by have := HD.out; omega
      have c1 : decide ((i : Int) < (xs.length : Int)) = true := decide_eq_true (by omega)
      have c1n : decide (i < xs.length) = true := decide_eq_true hi
      have c2 : decide (0 ≤ (i : Int)) = true := decide_eq_true (by omega)
      obtain ⟨ad, e1, hx0, hx1, hx2, hx3, hx4, hx5, hx6, hx7, hx8, hx9, hx10, hx11⟩ := at_T60 (Kd.C_below HA.out HQ.out) (i : Int) (by omega) (by omega)
      obtain ⟨bd, e2, hy0, hy1, hy2, hy3, hy4, hy5, hy6, hy7, hy8, hy9, hy10, hy11⟩ := at_T60 (Kd.C_below HB.out HQ.out) (i : Int) (by omega) (by omega)
      cases e1
      cases e2
      simp only [Int.toNat_natCast] at hx0 hy0 hx1 hy1 hx2 hy2 hx3 hy3 hx4 hy4 hx5 hy5 hx6 hy6 hx7 hy7 hx8 hy8 hx9 hy9 hx10 hy10 hx11 hy11
      have q1 : 0 ≤ (i : Int) := by omega
      have q2 : (i : Int) < (xs.length : Int) := by omega
      have q3 : IntKind.i64.wrap ((i : Int) + 1) = ((i + 1 : Nat) : Int) := by rw [IntWalk.i64_in _ ⟨by omega, by omega⟩]; omega
      have HC : Aside0 (∀ w1, Calls Tryd.prog 46 #[.agg #[.int .i64 (rd_T60 xs (i : Int)).f0, .int .i64 (rd_T60 xs (i : Int)).f1, .int .i64 (rd_T60 xs (i : Int)).f2.f0, .int .i64 (rd_T60 xs (i : Int)).f2.f1, .float .f64 (rd_T60 xs (i : Int)).f2.f2, .string (rd_T60 xs (i : Int)).f2.f3, .int .i64 (rd_T60 xs (i : Int)).f2.f4, .int .i64 (rd_T60 xs (i : Int)).f3.f0, .int .i64 (rd_T60 xs (i : Int)).f3.f1, .float .f64 (rd_T60 xs (i : Int)).f3.f2, .string (rd_T60 xs (i : Int)).f3.f3, .int .i64 (rd_T60 xs (i : Int)).f3.f4], .agg #[.int .i64 (rd_T60 xs (i : Int)).f0, .int .i64 (rd_T60 xs (i : Int)).f1, .int .i64 (rd_T60 xs (i : Int)).f2.f0, .int .i64 (rd_T60 xs (i : Int)).f2.f1, .float .f64 (rd_T60 xs (i : Int)).f2.f2, .string (rd_T60 xs (i : Int)).f2.f3, .int .i64 (rd_T60 xs (i : Int)).f2.f4, .int .i64 (rd_T60 xs (i : Int)).f3.f0, .int .i64 (rd_T60 xs (i : Int)).f3.f1, .float .f64 (rd_T60 xs (i : Int)).f3.f2, .string (rd_T60 xs (i : Int)).f3.f3, .int .i64 (rd_T60 xs (i : Int)).f3.f4]] w1 (Yes w1)) := ⟨fun w1 => eqa_calls (rd_T60 xs (i : Int)) w1⟩
      clear hm hi
      go_wp2
      go_region_law (go_simp; go_at_call 46; refine (HC.out _).mono ?_; rintro e w1 ⟨rfl, hb⟩; have HQ1 := Aside0.mk (below_step HQ.out (undrew hb)); clear hb)
      all_goals
        go_wp2
        go_roundg k
        case measure => omega
        case rel => exact ⟨i + 1, by first | rfl | (rw [q3]; done) | simp, ⟨by have := HD.out; omega⟩, HQ1⟩
set_option maxHeartbeats 8000000 in
set_option maxRecDepth 100000 in
theorem eqps_calls (xs : List S88) (A B : Option Addr) (c d : Nat) (w : World) (ha : Kd.C k88 w A xs.length xs) (hb : Kd.C k88 w B xs.length xs) : Calls Tryd.prog 60 #[.slice A xs.length c, .slice B xs.length d] w (Yes w) := by
  have HA := Aside0.mk ha
  have HB := Aside0.mk hb
  have HM := Aside0.mk ha.2.1
  have HQ := Aside0.mk (Below.refl w.heap.size w)
  clear ha hb
  have hu := Tryd.underlying88
  go_enter Tryd.func60, Tryd.ntmps60
  go_wp2
  go_loopg [5] xs.length (fun k v5 wr => ∃ i : Nat, v5 = .int .i64 (i : Int) ∧ Aside0 (i + k = xs.length) ∧ Aside0 (Below w.heap.size w wr))
  case atStart => exact ⟨0, rfl, ⟨Nat.zero_add _⟩, HQ⟩
  case round =>
    clear HQ
    obtain ⟨i, rfl, HD, HQ⟩ := hrel
    have hm := HM.out
    cases gk with
    | zero =>
      have c1 : decide ((i : Int) < (xs.length : Int)) = false := decide_eq_false (by have := HD.out; omega)
      have c1n : decide (i < xs.length) = false := decide_eq_false (by have := HD.out; omega)
      clear hm
      go_wp2
      go_ret
      exact ⟨rfl, HQ.out⟩
    | succ k =>
      have hi : i < xs.length := by have := HD.out; omega
      have c1 : decide ((i : Int) < (xs.length : Int)) = true := decide_eq_true (by omega)
      have c1n : decide (i < xs.length) = true := decide_eq_true hi
      have c2 : decide (0 ≤ (i : Int)) = true := decide_eq_true (by omega)
      obtain ⟨ad, e1, hx0, hx1, hx2, hx3, hx4, hx5, hx6, hx7, hx8, hx9, hx10⟩ := at_T88 (Kd.C_below HA.out HQ.out) (i : Int) (by omega) (by omega)
      obtain ⟨bd, e2, hy0, hy1, hy2, hy3, hy4, hy5, hy6, hy7, hy8, hy9, hy10⟩ := at_T88 (Kd.C_below HB.out HQ.out) (i : Int) (by omega) (by omega)
      cases e1
      cases e2
      simp only [Int.toNat_natCast] at hx0 hy0 hx1 hy1 hx2 hy2 hx3 hy3 hx4 hy4 hx5 hy5 hx6 hy6 hx7 hy7 hx8 hy8 hx9 hy9 hx10 hy10
      have q1 : 0 ≤ (i : Int) := by omega
      have q2 : (i : Int) < (xs.length : Int) := by omega
      have q3 : IntKind.i64.wrap ((i : Int) + 1) = ((i + 1 : Nat) : Int) := by rw [IntWalk.i64_in _ ⟨by omega, by omega⟩]; omega
      have HC : Aside0 (∀ w1, Calls Tryd.prog 66 #[.agg #[.int .i64 (rd_T88 xs (i : Int)).f0.f0, .int .i64 (rd_T88 xs (i : Int)).f0.f1, .float .f64 (rd_T88 xs (i : Int)).f0.f2, .string (rd_T88 xs (i : Int)).f0.f3, .int .i64 (rd_T88 xs (i : Int)).f0.f4, .int .i64 (rd_T88 xs (i : Int)).f1.f0, .int .i64 (rd_T88 xs (i : Int)).f1.f1, .float .f64 (rd_T88 xs (i : Int)).f1.f2, .string (rd_T88 xs (i : Int)).f1.f3, .int .i64 (rd_T88 xs (i : Int)).f1.f4, .int .i64 (rd_T88 xs (i : Int)).f2], .agg #[.int .i64 (rd_T88 xs (i : Int)).f0.f0, .int .i64 (rd_T88 xs (i : Int)).f0.f1, .float .f64 (rd_T88 xs (i : Int)).f0.f2, .string (rd_T88 xs (i : Int)).f0.f3, .int .i64 (rd_T88 xs (i : Int)).f0.f4, .int .i64 (rd_T88 xs (i : Int)).f1.f0, .int .i64 (rd_T88 xs (i : Int)).f1.f1, .float .f64 (rd_T88 xs (i : Int)).f1.f2, .string (rd_T88 xs (i : Int)).f1.f3, .int .i64 (rd_T88 xs (i : Int)).f1.f4, .int .i64 (rd_T88 xs (i : Int)).f2]] w1 (Yes w1)) := ⟨fun w1 => eqp_calls (rd_T88 xs (i : Int)) w1⟩
      clear hm hi
      go_wp2
      go_region_law (go_simp; go_at_call 66; refine (HC.out _).mono ?_; rintro e w1 ⟨rfl, hb⟩; have HQ1 := Aside0.mk (below_step HQ.out (undrew hb)); clear hb)
      all_goals
        go_wp2
        go_roundg k
        case measure => omega
        case rel => exact ⟨i + 1, by first | rfl | (rw [q3]; done) | simp, ⟨by have := HD.out; omega⟩, HQ1⟩
set_option maxHeartbeats 8000000 in
set_option maxRecDepth 100000 in
theorem eqxs_calls (xs : List S31) (A B : Option Addr) (c d : Nat) (w : World) (ha : Kd.C k31 w A xs.length xs) (hb : Kd.C k31 w B xs.length xs) : Calls Tryd.prog 14 #[.slice A xs.length c, .slice B xs.length d] w (Yes w) := by
  have HA := Aside0.mk ha
  have HB := Aside0.mk hb
  have HM := Aside0.mk ha.2.1
  have HQ := Aside0.mk (Below.refl w.heap.size w)
  clear ha hb
  have hu := Tryd.underlying31
  go_enter Tryd.func14, Tryd.ntmps14
  go_wp2
  go_loopg [5] xs.length (fun k v5 wr => ∃ i : Nat, v5 = .int .i64 (i : Int) ∧ Aside0 (i + k = xs.length) ∧ Aside0 (Below w.heap.size w wr))
  case atStart => exact ⟨0, rfl, ⟨Nat.zero_add _⟩, HQ⟩
  case round =>
    clear HQ
    obtain ⟨i, rfl, HD, HQ⟩ := hrel
    have hm := HM.out
    cases gk with
    | zero =>
      have c1 : decide ((i : Int) < (xs.length : Int)) = false := decide_eq_false (by have := HD.out; omega)
      have c1n : decide (i < xs.length) = false := decide_eq_false (by have := HD.out; omega)
      clear hm
      go_wp2
      go_ret
      exact ⟨rfl, HQ.out⟩
    | succ k =>
      have hi : i < xs.length := by have := HD.out; omega
      have c1 : decide ((i : Int) < (xs.length : Int)) = true := decide_eq_true (by omega)
      have c1n : decide (i < xs.length) = true := decide_eq_true hi
      have c2 : decide (0 ≤ (i : Int)) = true := decide_eq_true (by omega)
      obtain ⟨ad, e1, hx0, hx1, hx2, hx3, hx4, hx5, hx6, hx7, hx8, hx9, hx10, hx11, hx12, hx13⟩ := at_T31 (Kd.C_below HA.out HQ.out) (i : Int) (by omega) (by omega)
      obtain ⟨bd, e2, hy0, hy1, hy2, hy3, hy4, hy5, hy6, hy7, hy8, hy9, hy10, hy11, hy12, hy13⟩ := at_T31 (Kd.C_below HB.out HQ.out) (i : Int) (by omega) (by omega)
      cases e1
      cases e2
      simp only [Int.toNat_natCast] at hx0 hy0 hx1 hy1 hx2 hy2 hx3 hy3 hx4 hy4 hx5 hy5 hx6 hy6 hx7 hy7 hx8 hy8 hx9 hy9 hx10 hy10 hx11 hy11 hx12 hy12 hx13 hy13
      have q1 : 0 ≤ (i : Int) := by omega
      have q2 : (i : Int) < (xs.length : Int) := by omega
      have q3 : IntKind.i64.wrap ((i : Int) + 1) = ((i + 1 : Nat) : Int) := by rw [IntWalk.i64_in _ ⟨by omega, by omega⟩]; omega
      have HC : Aside0 (∀ w1, Calls Tryd.prog 29 #[.agg #[.int .i64 (rd_T31 xs (i : Int)).f0, .int .i64 (rd_T31 xs (i : Int)).f1, .int .i64 (rd_T31 xs (i : Int)).f2, .int .i64 (rd_T31 xs (i : Int)).f3, .int .i64 (rd_T31 xs (i : Int)).f4.f0, .int .i64 (rd_T31 xs (i : Int)).f4.f1, .float .f64 (rd_T31 xs (i : Int)).f4.f2, .string (rd_T31 xs (i : Int)).f4.f3, .int .i64 (rd_T31 xs (i : Int)).f4.f4, .int .i64 (rd_T31 xs (i : Int)).f5.f0, .int .i64 (rd_T31 xs (i : Int)).f5.f1, .float .f64 (rd_T31 xs (i : Int)).f5.f2, .string (rd_T31 xs (i : Int)).f5.f3, .int .i64 (rd_T31 xs (i : Int)).f5.f4], .agg #[.int .i64 (rd_T31 xs (i : Int)).f0, .int .i64 (rd_T31 xs (i : Int)).f1, .int .i64 (rd_T31 xs (i : Int)).f2, .int .i64 (rd_T31 xs (i : Int)).f3, .int .i64 (rd_T31 xs (i : Int)).f4.f0, .int .i64 (rd_T31 xs (i : Int)).f4.f1, .float .f64 (rd_T31 xs (i : Int)).f4.f2, .string (rd_T31 xs (i : Int)).f4.f3, .int .i64 (rd_T31 xs (i : Int)).f4.f4, .int .i64 (rd_T31 xs (i : Int)).f5.f0, .int .i64 (rd_T31 xs (i : Int)).f5.f1, .float .f64 (rd_T31 xs (i : Int)).f5.f2, .string (rd_T31 xs (i : Int)).f5.f3, .int .i64 (rd_T31 xs (i : Int)).f5.f4]] w1 (Yes w1)) := ⟨fun w1 => eqx_calls (rd_T31 xs (i : Int)) w1⟩
      clear hm hi
      go_wp2
      go_region_law (go_simp; go_at_call 29; refine (HC.out _).mono ?_; rintro e w1 ⟨rfl, hb⟩; have HQ1 := Aside0.mk (below_step HQ.out (undrew hb)); clear hb)
      all_goals
        go_wp2
        go_roundg k
        case measure => omega
        case rel => exact ⟨i + 1, by first | rfl | (rw [q3]; done) | simp, ⟨by have := HD.out; omega⟩, HQ1⟩
set_option maxHeartbeats 4000000 in
set_option maxRecDepth 100000 in
theorem eqt_calls (ps : List S88) (tn : Int) (A B : Option Addr) (c d : Nat) (w : World) (ha : Kd.C k88 w A ps.length ps) (hb : Kd.C k88 w B ps.length ps) : Calls Tryd.prog 47 #[.agg #[.slice A ps.length c, .int .i64 tn], .agg #[.slice B ps.length d, .int .i64 tn]] w (Yes w) := by
  have HA := Aside0.mk ha
  have HC := Aside0.mk hb
  have HB := Aside0.mk (below_alloc (below_alloc (Below.refl w.heap.size w) (.cells #[.slice A ps.length c, .int .i64 tn] 78)) (.cells #[.slice B ps.length d, .int .i64 tn] 78))
  have BA := Aside0.mk (heap_alloc2_old w (.cells #[.slice A ps.length c, .int .i64 tn] 78) (.cells #[.slice B ps.length d, .int .i64 tn] 78))
  have BB := Aside0.mk (heap_alloc2_new w (.cells #[.slice A ps.length c, .int .i64 tn] 78) (.cells #[.slice B ps.length d, .int .i64 tn] 78))
  clear ha hb
  have hu := Tryd.underlying78
  go_enter Tryd.func47, Tryd.ntmps47
  go_wp2_with (go_at_call 60; refine (eqps_calls ps A B c d _ (Kd.C_alloc (Kd.C_alloc HA.out _) _) (Kd.C_alloc (Kd.C_alloc HC.out _) _)).mono ?_; rintro e w' ⟨rfl, hb⟩; have nB := Aside0.mk (below_step HB.out hb); obtain ⟨y0, y1⟩ := c2 (blk_below BA.out hb); obtain ⟨z0, z1⟩ := c2 (blk_below BB.out hb); clear HB BA BB hb; have HB := nB; clear nB)
  go_ret
  exact ⟨rfl, HB.out⟩
set_option maxHeartbeats 8000000 in
set_option maxRecDepth 100000 in
theorem eqts_calls (xs : List S78) (A B : Option Addr) (c d : Nat) (w : World) (ha : Kd.C k78 w A xs.length xs) (hb : Kd.C k78 w B xs.length xs) : Calls Tryd.prog 28 #[.slice A xs.length c, .slice B xs.length d] w (Yes w) := by
  have HA := Aside0.mk ha
  have HB := Aside0.mk hb
  have HM := Aside0.mk ha.2.1
  have HQ := Aside0.mk (Below.refl w.heap.size w)
  clear ha hb
  have hu := Tryd.underlying78
  go_enter Tryd.func28, Tryd.ntmps28
  go_wp2
  go_loopg [5] xs.length (fun k v5 wr => ∃ i : Nat, v5 = .int .i64 (i : Int) ∧ Aside0 (i + k = xs.length) ∧ Aside0 (Below w.heap.size w wr))
  case atStart => exact ⟨0, rfl, ⟨Nat.zero_add _⟩, HQ⟩
  case round =>
    clear HQ
    obtain ⟨i, rfl, HD, HQ⟩ := hrel
    have hm := HM.out
    cases gk with
    | zero =>
      have c1 : decide ((i : Int) < (xs.length : Int)) = false := decide_eq_false (by have := HD.out; omega)
      have c1n : decide (i < xs.length) = false := decide_eq_false (by have := HD.out; omega)
      clear hm
      go_wp2
      go_ret
      exact ⟨rfl, HQ.out⟩
    | succ k =>
      have hi : i < xs.length := by have := HD.out; omega
      have c1 : decide ((i : Int) < (xs.length : Int)) = true := decide_eq_true (by omega)
      have c1n : decide (i < xs.length) = true := decide_eq_true hi
      have c2 : decide (0 ≤ (i : Int)) = true := decide_eq_true (by omega)
      obtain ⟨ad, A0, c0, e1, hx0, hx1, hxl, hxc⟩ := at_T78 (Kd.C_below HA.out HQ.out) (i : Int) (by omega) (by omega)
      obtain ⟨bd, B0, d0, e2, hy0, hy1, hyl, hyc⟩ := at_T78 (Kd.C_below HB.out HQ.out) (i : Int) (by omega) (by omega)
      cases e1
      cases e2
      simp only [Int.toNat_natCast] at hx0 hy0 hx1 hy1
      have q1 : 0 ≤ (i : Int) := by omega
      have q2 : (i : Int) < (xs.length : Int) := by omega
      have q3 : IntKind.i64.wrap ((i : Int) + 1) = ((i + 1 : Nat) : Int) := by rw [IntWalk.i64_in _ ⟨by omega, by omega⟩]; omega
      have HX := Aside0.mk hxc
      have HY := Aside0.mk hyc
      clear hxc hyc
      clear hm hi
      go_wp2
      go_region_law (go_simp; go_at_call 47; refine (eqt_calls _ _ A0 B0 c0 d0 _ (Kd.C_drew HX.out) (Kd.C_drew HY.out)).mono ?_; rintro e w1 ⟨rfl, hb⟩; have HQ1 := Aside0.mk (below_step HQ.out (undrew hb)); clear hb)
      all_goals
        go_wp2
        go_roundg k
        case measure => omega
        case rel => exact ⟨i + 1, by first | rfl | (rw [q3]; done) | simp, ⟨by have := HD.out; omega⟩, HQ1⟩
theorem k3 {w : World} {g : Nat} {t : TypeId} {x0 x1 x2 : Value} (h : w.heap[g]? = some (.cells #[x0, x1, x2] t (0, 0))) : w.cell? ⟨g, 0, none⟩ = some x0 ∧ w.cell? ⟨g, 1, none⟩ = some x1 ∧ w.cell? ⟨g, 2, none⟩ = some x2 := by
  have e := fun j => blk_cell h j
  refine ⟨?_, ?_, ?_⟩ <;> rw [e] <;> rfl
set_option maxHeartbeats 4000000 in
set_option maxRecDepth 100000 in
theorem eqi_calls (b : Bool) (an : List S60) (ts : List S78) (A1 B1 A2 B2 : Option Addr) (c1 d1 c2 d2 : Nat) (w : World) (h1 : Kd.C k60 w A1 an.length an) (h2 : Kd.C k60 w B1 an.length an) (h3 : Kd.C k78 w A2 ts.length ts) (h4 : Kd.C k78 w B2 ts.length ts) :
    Calls Tryd.prog 13 #[.agg #[.bool b, .slice A1 an.length c1, .slice A2 ts.length c2], .agg #[.bool b, .slice B1 an.length d1, .slice B2 ts.length d2]] w (Yes w) := by
  have H1 := Aside0.mk h1
  have H2 := Aside0.mk h2
  have H3 := Aside0.mk h3
  have H4 := Aside0.mk h4
  have HB := Aside0.mk (below_alloc (below_alloc (Below.refl w.heap.size w) (.cells #[.bool b, .slice A1 an.length c1, .slice A2 ts.length c2] 39)) (.cells #[.bool b, .slice B1 an.length d1, .slice B2 ts.length d2] 39))
  have BA := Aside0.mk (heap_alloc2_old w (.cells #[.bool b, .slice A1 an.length c1, .slice A2 ts.length c2] 39) (.cells #[.bool b, .slice B1 an.length d1, .slice B2 ts.length d2] 39))
  have BB := Aside0.mk (heap_alloc2_new w (.cells #[.bool b, .slice A1 an.length c1, .slice A2 ts.length c2] 39) (.cells #[.bool b, .slice B1 an.length d1, .slice B2 ts.length d2] 39))
  clear h1 h2 h3 h4
  have hu := Tryd.underlying39
  go_enter Tryd.func13, Tryd.ntmps13
  go_wp2_with (first | (go_at_call 27; refine (eqas_calls an A1 B1 c1 d1 _ (Kd.C_alloc (Kd.C_alloc H1.out _) _) (Kd.C_alloc (Kd.C_alloc H2.out _) _)).mono ?_; rintro e w1 ⟨rfl, hb⟩; have nB := Aside0.mk (below_step HB.out hb); obtain ⟨y0, y1, y2⟩ := k3 (blk_below BA.out hb); obtain ⟨z0, z1, z2⟩ := k3 (blk_below BB.out hb); clear HB BA BB hb; have HB := nB; clear nB) | (go_at_call 28; refine (eqts_calls ts A2 B2 c2 d2 _ (Kd.C_below H3.out HB.out) (Kd.C_below H4.out HB.out)).mono ?_; rintro e w2 ⟨rfl, hb⟩; have nB := Aside0.mk (below_step HB.out hb); clear HB hb; have HB := nB; clear nB))
  all_goals
    go_ret
    exact ⟨by first | rfl | simp, HB.out⟩
end Go.Proofs.YtclploookcjcbaaDoor.PIde
namespace Go.Proofs.YtclploookcjcbaaDoor.PIde
open Go.RowKit Go.Proofs.YtclploookcjcbaaDoorW.PrintWords Go.Proofs.YtclploookcjcbaaDoorW.PrintLast Go.Proofs.YtclploookcjcbaaDoorW.PrintMore Go.Proofs.YtclploookcjcbaaDoorW.FltL
attribute [local go_sem] max2_int min2_int max_two min_two max_three min_three max_four min_four   -- for this text's walks alone
set_option linter.unusedVariables false
set_option linter.unusedSimpArgs false
/-- The first mark of table i, where the marks begin at k and the tables have L pairs. -/
def posL (L : Nat → Nat) (k : Int) : Nat → Int
  | 0 => k
  | i + 1 => posL L k i + (11 * (L i : Int) + 1)
theorem posL_in (L : Nat → Nat) (k : Int) (hk : 0 ≤ k) (hL : ∀ i, L i ≤ 500) : ∀ i : Nat, 0 ≤ posL L k i ∧ posL L k i ≤ k + 5501 * (i : Int)
  | 0 => ⟨hk, by unfold posL; omega⟩
  | i + 1 => by
    have := posL_in L k hk hL i
    have := hL i
    unfold posL
    omega
/-- Table i holds its marks. -/
def MkT (L : Nat → Nat) (k : Int) (T : S78) (i : Nat) : Prop := T.f0.length = L i ∧ T.f1 = posL L k i + 11 * (L i : Int) ∧ ∀ j : Nat, j < T.f0.length → T.f0[j]? = some (mP (posL L k i + 11 * j))
/-- The lengths of the tables. -/
def lenT (ts : List S78) (i : Nat) : Nat := (rd_T78 ts (i : Int)).f0.length
theorem lenT_le {ts : List S78} (h : ∀ T ∈ ts, T.f0.length ≤ 500) (i : Nat) : lenT ts i ≤ 500 := by
  unfold lenT rd_T78
  rw [List.getD_eq_getElem?_getD]
  by_cases hi : i < ts.length
  · simp only [Int.toNat_natCast, List.getElem?_eq_getElem hi, Option.getD_some]; exact h _ (List.getElem_mem hi)
  · simp only [Int.toNat_natCast, List.getElem?_eq_none (by omega : ts.length ≤ i), Option.getD_none]; simp [z78]
theorem rdS (ys : List S78) (i : Nat) (T : S78) (hi : i < ys.length) (j : Nat) : rd_T78 (ys.set i T) (j : Int) = if j = i then T else rd_T78 ys (j : Int) := by
  unfold rd_T78
  simp only [List.getD_eq_getElem?_getD, Int.toNat_natCast]
  split
  · subst_vars; rw [List.getElem?_set_self hi]; rfl
  · rw [List.getElem?_set_ne (fun e => by simp_all)]
set_option maxHeartbeats 8000000 in
set_option maxRecDepth 100000 in
theorem mkt_calls (ts : List S78) (k : Int) (v : Value) (base : Nat) (w : World) (hw : base ≤ w.heap.size) (hr : Kd.S k78 78 w base tt v ts) (hk : 0 ≤ k) (hk1 : k ≤ 1000000) (hn : ts.length ≤ 100) (hl : ∀ T ∈ ts, T.f0.length ≤ 500) :
    Calls Tryd.prog 32 #[v, .int .i64 k] w fun e w' => e = .returned (.int .i64 (posL (lenT ts) k ts.length)) ∧ ∃ ys, ys.length = ts.length ∧ (∀ i : Nat, i < ys.length → MkT (lenT ts) k (rd_T78 ys (i : Int)) i) ∧ Kd.S k78 78 w' base tt v ys ∧ Below base w w' ∧ KT [88, 78] w w' := by
  have hpos := posL_in (lenT ts) k hk (lenT_le hl)
  have hL := lenT_le hl
  obtain ⟨A, cap, rfl⟩ := Kd.S_slice hr
  have HW := Aside0.mk hw
  have HT := Aside0.mk hr
  have HN := Aside0.mk hn
  have HP := Aside0.mk hpos
  have HL := Aside0.mk hL
  have HK := Aside0.mk hk1
  clear hw hr hk hk1 hn hl hpos hL
  have hu := Tryd.underlying78
  have hu2 := Tryd.underlying37
  go_enter Tryd.func32, Tryd.ntmps32
  go_wp2
  go_loopg [1, 5] ts.length (fun d v1 v5 wr => ∃ i : Nat, v5 = .int .i64 (i : Int) ∧ v1 = .int .i64 (posL (lenT ts) k i) ∧ Aside0 (i + d = ts.length) ∧ Aside0 (∃ ys, ys.length = ts.length ∧ (∀ j : Nat, j < i → MkT (lenT ts) k (rd_T78 ys (j : Int)) j) ∧ (∀ j : Nat, i ≤ j → rd_T78 ys (j : Int) = rd_T78 ts (j : Int)) ∧ Kd.S k78 78 wr base tt (.slice A ts.length cap) ys) ∧ Aside0 (Below base w wr ∧ KT [88, 78] w wr))
  case atStart => exact ⟨0, rfl, rfl, ⟨Nat.zero_add _⟩, ⟨ts, rfl, fun j hj => absurd hj (Nat.not_lt_zero _), fun _ _ => rfl, HT.out⟩, ⟨Below.refl _ _, KT.refl _ _⟩⟩
  case round =>
    obtain ⟨i, rfl, rfl, HD, HY, HG⟩ := hrel
    have hm := HN.out
    cases gk with
    | zero =>
      have hi : i = ts.length := by have := HD.out; omega
      subst hi
      have c1 : decide ((ts.length : Int) < (ts.length : Int)) = false := decide_eq_false (by omega)
      have c1n : decide (ts.length < ts.length) = false := decide_eq_false (by omega)
      clear hm
      go_wp2
      go_ret
      obtain ⟨ys, hyl, hyy, -, hyS⟩ := HY.out
      exact ⟨rfl, ys, hyl, fun j hj => hyy j (hyl ▸ hj), hyS, HG.out.1, HG.out.2⟩
    | succ d =>
      have hi : i < ts.length := by have := HD.out; omega
      have c1 : decide ((i : Int) < (ts.length : Int)) = true := decide_eq_true (by omega)
      have c1n : decide (i < ts.length) = true := decide_eq_true hi
      have c2 : decide (0 ≤ (i : Int)) = true := decide_eq_true (by omega)
      have q1 : 0 ≤ (i : Int) := by omega
      have q2 : (i : Int) < (ts.length : Int) := by omega
      have q3 : IntKind.i64.wrap ((i : Int) + 1) = ((i + 1 : Nat) : Int) := by rw [IntWalk.i64_in _ ⟨by omega, by omega⟩]; omega
      obtain ⟨ys, hyl, hyy, hyt, hyS⟩ := HY.out
      obtain ⟨g, c', he, -⟩ := Kd.S_form hyS (by omega)
      injection he with he hq hc
      subst he
      subst hc
      clear hq
      obtain ⟨oki, pv, hR, e0, -, f0, -, -, hback⟩ := T_lend hyS (i : Int) q1 q2
      simp only [Int.toNat_natCast] at e0 f0 hback
      rw [hyt i (Nat.le_refl _)] at hR hback
      obtain ⟨pA, pc, rfl⟩ := Kd.R_slice hR
      obtain ⟨p, hp⟩ : ∃ p : Int, p = posL (lenT ts) k i := ⟨_, rfl⟩
      have hp1 := HP.out i
      have hL := HL.out i
      have hk1 := HK.out
      rw [← hp] at hp1 ⊢
      obtain ⟨p1, hpp⟩ : ∃ q : Int, q = p + 11 * (lenT ts i : Int) := ⟨_, rfl⟩
      have hw2 : IntKind.i64.wrap (p1 + 1) = posL (lenT ts) k (i + 1) := by rw [IntWalk.i64_in _ ⟨by omega, by omega⟩]; unfold posL; omega
      have HC : Aside0 (∀ w1, k88.R 88 w1 base oki (.slice pA (rd_T78 ts (i : Int)).f0.length pc) (rd_T78 ts (i : Int)).f0 → Calls Tryd.prog 49 #[.slice pA (rd_T78 ts (i : Int)).f0.length pc, .int .i64 p] w1 fun e w' => e = .returned (.int .i64 p1) ∧ ∃ qs, qs.length = lenT ts i ∧ (∀ j : Nat, j < qs.length → qs[j]? = some (mP (p + 11 * j))) ∧ k88.R 88 w' base oki (.slice pA (rd_T78 ts (i : Int)).f0.length pc) qs ∧ OnlyR base oki 88 w1 w') := ⟨fun w1 h => by rw [hpp]; exact mkp_calls _ p _ base oki w1 h hp1.1 (by show p + 11 * (lenT ts i : Int) < _; omega)⟩
      have HR := Aside0.mk hR
      have HB := Aside0.mk hback
      have HI := Aside0.mk hi
      have HY1 := Aside0.mk (And.intro hyl hyy)
      have HY2 := Aside0.mk hyt
      have HPP := Aside0.mk (And.intro hp hpp)
      clear hyl hyy hyt hyS HY hR hback hp1 hL hk1 hp hpp hm hi
      go_wp2_with (go_at_call 49; refine (HC.out _ HR.out).mono ?_; rintro e w1 ⟨rfl, qs, hql, hqq, hqR, ho⟩; have hS1 := (HB.out w1 ho.size (fun k hk hn => ho.block k hk hn) _ qs (Kd.R_mono hqR (fun _ h => .inl h))).1 rfl; obtain ⟨g2, z2, he2, hbg, -, cs, hcs⟩ := Kd.S_form hS1 (by rw [List.length_set, HY1.out.1]; have := HI.out; omega); injection he2 with he2 hq2 hq3; clear hq2 hq3; injection he2 with he2; injection he2 with he2; subst he2; have HC2 := Aside0.mk (And.intro hbg hcs); clear hbg hcs; obtain ⟨-, -, -, -, t1, -, t2, htn, -⟩ := T_lend hS1 (i : Int) q1 q2; simp only [Int.toNat_natCast] at t1 t2 htn; rw [rdS _ _ _ (by rw [HY1.out.1]; exact HI.out), if_pos rfl] at t1 htn; have HS2 := Aside0.mk htn; have HQ := Aside0.mk (And.intro hql hqq); have HO := Aside0.mk ho; clear hS1 htn hql hqq hqR ho)
      go_roundg d
      case measure => omega
      case rel =>
        refine ⟨i + 1, by first | rfl | (rw [q3]; done) | simp, by rfl, ⟨by have := HD.out; omega⟩, ⟨_, by simp only [List.length_set]; exact HY1.out.1, fun j hj => ?_, fun j hj => ?_, HS2.out _⟩, ⟨?_⟩⟩
        · rw [rdS _ _ _ (by rw [List.length_set, HY1.out.1]; exact HI.out)]
          split
          · rename_i e
            subst e
            exact ⟨HQ.out.1, by rw [← HPP.out.1]; exact HPP.out.2, fun m hm => by rw [← HPP.out.1]; exact HQ.out.2 m hm⟩
          · rename_i hne
            rw [rdS _ _ _ (by rw [HY1.out.1]; exact HI.out), if_neg hne]
            exact HY1.out.2 j (by omega)
        · rw [rdS _ _ _ (by rw [List.length_set, HY1.out.1]; exact HI.out), if_neg (by omega), rdS _ _ _ (by rw [HY1.out.1]; exact HI.out), if_neg (by omega)]
          exact HY2.out j (by omega)
        · exact ⟨(HG.out.1.trans (HO.out.below (Nat.le_trans HW.out HG.out.1.size))).setCell HC2.out.1 _, (HG.out.2.trans (HO.out.kt (by simp))).trans (KT.set HC2.out.2 (by simp) _)⟩
set_option maxHeartbeats 4000000 in
set_option maxRecDepth 100000 in
theorem mki_calls (b : Bool) (an : List S60) (ts : List S78) (av tv : Value) (base : Nat) (w : World) (hw : base ≤ w.heap.size) (ha : Kd.R k60 60 w base tt av an) (ht : Kd.S k78 78 w base tt tv ts) (hla : an.length ≤ 1000) (hn : ts.length ≤ 100) (hl : ∀ T ∈ ts, T.f0.length ≤ 500) :
    Calls Tryd.prog 16 #[.agg #[.bool b, av, tv], .int .i64 1] w fun e w' => e = .returned (.int .i64 (posL (lenT ts) (1 + 12 * an.length) ts.length)) ∧ ∃ bn ys, bn.length = an.length ∧ (∀ j : Nat, j < bn.length → bn[j]? = some (mA (1 + 12 * j))) ∧ ys.length = ts.length ∧ (∀ i : Nat, i < ys.length → MkT (lenT ts) (1 + 12 * an.length) (rd_T78 ys (i : Int)) i) ∧ Kd.R k60 60 w' base tt av bn ∧ Kd.S k78 78 w' base tt tv ys ∧ Below base w w' ∧ KT [60, 88, 78] w w' := by
  have HW := Aside0.mk hw
  have HBA := Aside0.mk (heap_alloc_new w (.cells #[.bool b, av, tv] 39))
  have HB := Aside0.mk (below_alloc (Below.refl w.heap.size w) (.cells #[.bool b, av, tv] 39))
  have HC : Aside0 (∀ w1, Kd.R k60 60 w1 base tt av an → Calls Tryd.prog 31 #[av, .int .i64 1] w1 fun e w' => e = .returned (.int .i64 (1 + 12 * an.length)) ∧ ∃ bn, bn.length = an.length ∧ (∀ j : Nat, j < bn.length → bn[j]? = some (mA (1 + 12 * j))) ∧ Kd.R k60 60 w' base tt av bn ∧ OnlyR base tt 60 w1 w') := ⟨fun w1 h => mka_calls an 1 av base tt w1 h (by decide) (by omega)⟩
  have HD : Aside0 (∀ w1, base ≤ w1.heap.size → Kd.S k78 78 w1 base tt tv ts → Calls Tryd.prog 32 #[tv, .int .i64 (1 + 12 * an.length)] w1 fun e w' => e = .returned (.int .i64 (posL (lenT ts) (1 + 12 * an.length) ts.length)) ∧ ∃ ys, ys.length = ts.length ∧ (∀ i : Nat, i < ys.length → MkT (lenT ts) (1 + 12 * an.length) (rd_T78 ys (i : Int)) i) ∧ Kd.S k78 78 w' base tt tv ys ∧ Below base w1 w' ∧ KT [88, 78] w1 w') := ⟨fun w1 h1 h => mkt_calls ts _ tv base w1 h1 h (by omega) (by omega) hn hl⟩
  have HA := Aside0.mk (Kd.R_below ha HB.out)
  have HT := Aside0.mk (Kd.S_below ht HB.out)
  generalize 1 + 12 * (an.length : Int) = k1 at *
  generalize posL (lenT ts) k1 ts.length = k2 at *
  clear ha ht hla hn hl hw
  have hu := Tryd.underlying39
  go_enter Tryd.func16, Tryd.ntmps16
  go_wp2_with (first | (go_at_call 31; refine (HC.out _ HA.out).mono ?_; rintro e w1 ⟨rfl, bn, hbl, hbb, hbR, ho⟩; obtain ⟨y0, y1, y2⟩ := k3 ((ho.kt (L := [60]) (by simp)).blk HBA.out (by decide)); have HT1 := Aside0.mk (S_KT HT.out (ho.kt (L := [60]) (by simp)) (by decide)); have HA1 := Aside0.mk hbR; have HQ := Aside0.mk (And.intro hbl hbb); have HB1 := Aside0.mk ((HB.out.mono HW.out).trans (ho.below (Nat.le_trans HW.out HB.out.size))); have HK1 := Aside0.mk (((KT.below HB.out).trans (ho.kt (L := [60]) (by simp))).mono (L' := [60, 88, 78]) (by decide)); clear hbl hbb hbR ho) | (go_at_call 32; refine (HD.out _ (Nat.le_trans HW.out HB1.out.size) HT1.out).mono ?_; rintro e w2 ⟨rfl, ys, hyl, hyy, hyS, hyb, hyk⟩; have HZ := Aside0.mk (And.intro hyl hyy); have HT2 := Aside0.mk hyS; have HA2 := Aside0.mk (R_KT HA1.out hyk (by decide)); have HB2 := Aside0.mk (HB1.out.trans hyb); have HK2 := Aside0.mk (HK1.out.trans (hyk.mono (by decide))); clear hyl hyy hyS hyb hyk))
  go_ret
  exact ⟨rfl, bn, ys, HQ.out.1, HQ.out.2, HZ.out.1, HZ.out.2, HA2.out, HT2.out, HB2.out, HK2.out⟩
end Go.Proofs.YtclploookcjcbaaDoor.PIde
