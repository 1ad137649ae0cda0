/- Proved: laws of 'comes to an answer, with fuel enough'; reversal of a row; a sorted row is as long without repeats as with them just when it has none. No condition beyond those each theorem states. -/
import Derived.Test.YtclploookcjcbaaSortRow
import Derived.Test.YtclploookcjcbaaSet
set_option linter.unusedVariables false
namespace Go.Proofs.Ytclploookcjcbaa.Ev
open Go Go.RowKit Go.Proofs.YtclploookcjcbaaW.PrintWords
/-- With fuel enough f comes to c. -/
def Co {α:Type} (f:Nat → Option α) (c:α):Prop:=∃ K,∀ k,K≤k → f k=some c
variable {α β : Type}
theorem Co.const (c:α):Co (fun _=>some c) c:=⟨0,fun _ _=>rfl⟩
theorem Co.step {f g:Nat → Option α} {c:α} (h:∀ k,f (k+1)=g k) (hg:Co g c):Co f c:=by
  obtain ⟨K,hK⟩:=hg;refine ⟨K+1,fun k hk=>?_⟩;obtain ⟨j,rfl⟩:∃ j,k=j+1:=⟨k - 1,by omega⟩
  rw [h];exact hK j (by omega)
theorem Co.step_const {f:Nat → Option α} {c:α} (h:∀ k,f (k+1)=some c):Co f c:=Co.step h (Co.const c)
theorem Co.of_eq {f g:Nat → Option α} {c:α} (h:∀ k,f k=g k) (hg:Co g c):Co f c:=by
  obtain ⟨K,hK⟩:=hg;exact ⟨K,fun k hk=>(h k).trans (hK k hk)⟩
theorem Co.bind {f:Nat → Option α} {g:Nat → α → Option β} {a:α} {c:β} (hf:Co f a) (hg:Co (fun k=>g k a) c):Co (fun k=>(f k).bind (g k)) c:=by
  obtain ⟨K,hK⟩:=hf;obtain ⟨L,hL⟩:=hg;refine ⟨K+L,fun k hk=>?_⟩;simp only [hK k (by omega),Option.bind_some];exact hL k (by omega)
theorem Co.bindc {f:Option α} {g:Nat → α → Option β} {a:α} {c:β} (hf:f=some a) (hg:Co (fun k=>g k a) c):Co (fun k=>f.bind (g k)) c:=by
  subst hf;exact hg
theorem Co.ex {f:Nat → Option α} {c:α} (h:Co f c):∃ k,f k=some c:=by
  obtain ⟨K,hK⟩:=h;exact ⟨K,hK K (Nat.le_refl _)⟩
theorem w1 (j:Nat) (h:j < 4611686018427387904):wrap64 ((j:Int)+1)=((j+1:Nat):Int):=by
  rw [IntWalk.wrap64_in _ ⟨by omega,by omega⟩]
  omega
/-! reversal -/
def rdB (xs:List ByteArray) (i:Nat):ByteArray:=xs.getD i ByteArray.empty
/-- x after i swaps -/
def RevAt (x y:List ByteArray) (i:Nat):Prop:=y.length=x.length∧∀ m,m < x.length → y.getD m ByteArray.empty=if m < i∨x.length < m+1+i then x.getD (x.length - 1 - m) ByteArray.empty else x.getD m ByteArray.empty
theorem RevAt.zero (x:List ByteArray):RevAt x x 0:=⟨rfl,fun m hm=>by rw [if_neg (by omega)]⟩
theorem getD_set (x:List ByteArray) (i:Nat) (b:ByteArray) (m:Nat) (hm:m < x.length):(x.set i b).getD m ByteArray.empty=if i=m then b else x.getD m ByteArray.empty:=by
  rw [List.getD_eq_getElem?_getD,List.getElem?_set,List.getD_eq_getElem?_getD]
  by_cases h:i=m
  · subst h
    simp [hm]
  · simp [h]
theorem RevAt.swap {x y:List ByteArray} {i j:Nat} (h:RevAt x y i) (hij:i < j) (hj:j+1+i=x.length):RevAt x ((y.set i (y.getD j ByteArray.empty)).set j (y.getD i ByteArray.empty)) (i+1):=by
  obtain ⟨hl,hm⟩:=h;refine ⟨by simpa using hl,fun m hlt=>?_⟩;rw [getD_set _ _ _ _ (by rw [List.length_set];omega),getD_set _ _ _ _ (by omega)];have hi:=hm i (by omega)
  have hj':=hm j (by omega)
  have hmm:=hm m hlt;rw [if_neg (by omega)] at hi hj'
  by_cases e:j=m
  · subst e
    rw [if_pos rfl,if_pos (by omega),hi]
    congr 1
    omega
  · rw [if_neg e]
    by_cases e':i=m
    · subst e'
      rw [if_pos rfl,if_pos (by omega),hj']
      congr 1
      omega
    · rw [if_neg e',hmm]
      by_cases q:m < i∨x.length < m+1+i
      · rw [if_pos q,if_pos (by omega)]
      · rw [if_neg q,if_neg (by omega)]
theorem RevAt.done {x y:List ByteArray} {i:Nat} (h:RevAt x y i) (hi:x.length≤2 * i+1):y=x.reverse:=by
  obtain ⟨hl,hm⟩:=h;refine List.ext_getElem (by simpa using hl) fun m h1 h2=>?_
  have h3:m < x.length:=by omega
  have:=hm m h3
  rw [List.getElem_reverse];rw [List.getD_eq_getElem?_getD,List.getElem?_eq_getElem h1,Option.getD_some] at this;rw [this]
  by_cases q:m < i∨x.length < m+1+i
  · rw [if_pos q,List.getD_eq_getElem?_getD,List.getElem?_eq_getElem (by omega),Option.getD_some]
  · rw [if_neg q,List.getD_eq_getElem?_getD,List.getElem?_eq_getElem h3,Option.getD_some]
    congr 1
    omega
/-! repeats -/
theorem le_anti {x y:List UInt8} (h1:x≤y) (h2:y≤x):x=y:=List.le_antisymm h1 h2
theorem compact_nodup {s:List (List UInt8)} (h:s.Nodup):Lib.compact s=s:=by
  refine Lib.compact_all s fun j hj=>?_
  by_cases h0:j=0
  · subst h0
    exact Lib.keeps_lt_one _ 0 (by omega)
  · refine Lib.keeps_pos fun e=>?_
    rw [List.getElem!_toArray,List.getElem!_toArray,getElem!_pos s j hj,getElem!_pos s (j - 1) (by omega)] at e;exact List.pairwise_iff_getElem.1 h (j - 1) j (by omega) hj (by omega) e.symm
theorem nodup_of_compact {s:List (List UInt8)} (hs:s.Pairwise (fun a b=>decide (a≤b)=true)) (h:(Lib.compact s).length=s.length):s.Nodup:=by
  have hk:∀ j,j < s.length → Lib.keeps s.toArray j=true:=by
    intro j hj
    unfold Lib.compact Lib.compactUpTo at h;rw [List.length_map] at h
    have h':(List.filter (Lib.keeps s.toArray) (List.range s.length)).length=(List.range s.length).length:=by rw [h,List.length_range]
    rw [List.length_filter_eq_length_iff] at h';exact h' j (List.mem_range.2 hj)
  have key:∀ a b:Nat,(ha:a < b) → (hb:b < s.length) → s[a]'(by omega)≠s[b]'hb:=by
    intro a b ha hb e
    have k1:=hk (a+1) (by omega);unfold Lib.keeps at k1;have k2:=of_decide_eq_true k1
    rcases k2 with k2|k2
    · omega
    · apply k2
      rw [List.getElem!_toArray,List.getElem!_toArray,getElem!_pos s (a+1) (by omega),getElem!_pos s (a+1 - 1) (by omega)];have p1:s[a]'(by omega)≤s[a+1]'(by omega):=of_decide_eq_true (List.pairwise_iff_getElem.1 hs a (a+1) (by omega) (by omega) (by omega))
      by_cases q:a+1=b
      · subst q
        exact e.symm
      · have p2:s[a+1]'(by omega)≤s[b]'hb:=of_decide_eq_true (List.pairwise_iff_getElem.1 hs (a+1) b (by omega) (by omega) (by omega))
        rw [← e] at p2;exact le_anti p2 p1
  exact List.pairwise_iff_getElem.2 fun a b ha hb hab=>key a b hab hb
/-- What the row comes to, sorted and without repeats, is as long as it was just when no string is in it twice. -/
theorem sortcompact (t:List ByteArray):(SortRow.compactF (SortRow.sortF t)).length=t.length ↔ (t.map fun s=>s.data.toList).Nodup:=by
  have hraw:∀ x,SortRow.raw (SortRow.cooked x)=x:=by
    intro x
    unfold SortRow.raw SortRow.cooked;rw [List.map_map]
    conv=>rhs;rw [← List.map_id x]
    exact List.map_congr_left fun b _=>by simp
  unfold SortRow.compactF SortRow.sortF;rw [hraw,SortRow.cooked_length]
  generalize hs:(SortRow.raw t).mergeSort (fun x y=>decide (x≤y))=s
  have hp:s.Perm (SortRow.raw t):=by rw [← hs];exact List.mergeSort_perm _ _
  have hl:s.length=t.length:=by rw [hp.length_eq,SortRow.raw_length]
  have tr:∀ a b c:List UInt8,decide (a≤b)=true → decide (b≤c)=true → decide (a≤c)=true:=fun a b c h1 h2=>by simp only [decide_eq_true_eq] at *;exact List.le_trans h1 h2
  have tot:∀ a b:List UInt8,(decide (a≤b) || decide (b≤a))=true:=fun a b=>by simp only [Bool.or_eq_true,decide_eq_true_eq];exact List.le_total a b
  have hso:s.Pairwise (fun a b=>decide (a≤b)=true):=by rw [← hs];exact List.pairwise_mergeSort tr tot _
  have hn:s.Nodup ↔ (SortRow.raw t).Nodup:=hp.nodup_iff
  show _ ↔ (SortRow.raw t).Nodup
  rw [← hn,← hl];exact ⟨nodup_of_compact hso,fun h=>by rw [compact_nodup h]⟩
theorem sort_length (t:List ByteArray):(SortRow.sortF t).length=t.length:=by
  unfold SortRow.sortF;rw [SortRow.cooked_length,List.length_mergeSort,SortRow.raw_length]
end Go.Proofs.Ytclploookcjcbaa.Ev
