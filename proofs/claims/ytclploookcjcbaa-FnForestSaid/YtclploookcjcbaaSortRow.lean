/- Proved: slices.Sort and slices.Compact of a row of strings that the call owns, in the words of the printed contracts: the same row sorted; the row cut to what stands when repeats are dropped. Conditions: the row's length is below 2^62. -/
import Derived.Test.YtclploookcjcbaaShelf
import Derived.Test.YtclploookcjcbaaVWords
import Derived.Test.YtclploookcjcbaaVKept
import Derived.Sort.OwnSorted
import Derived.Lib.RowBridge
set_option linter.unusedVariables false
namespace Go.Proofs.Ytclploookcjcbaa.SortRow
open Go Go.RowKit Go.Sort Go.Proofs.YtclploookcjcbaaW.PrintWords
def raw (l:List ByteArray):List (List UInt8):=l.map fun s=>s.data.toList
def cooked (l:List (List UInt8)):List ByteArray:=l.map fun b=>⟨b.toArray⟩
theorem encs_raw (l:List ByteArray):encs Value.string l=(raw l).map encStr:=by
  unfold encs raw;rw [List.map_map];exact List.map_congr_left fun s _=>rfl
theorem encs_cooked (l:List (List UInt8)):encs Value.string (cooked l)=l.map encStr:=by
  unfold encs cooked;rw [List.map_map];exact List.map_congr_left fun s _=>rfl
theorem raw_length (l:List ByteArray):(raw l).length=l.length:=by simp [raw]
theorem cooked_length (l:List (List UInt8)):(cooked l).length=l.length:=by simp [cooked]
def sortF (l:List ByteArray):List ByteArray:=cooked ((raw l).mergeSort fun x y=>decide (x≤y))
def compactF (l:List ByteArray):List ByteArray:=cooked (Lib.compact (raw l))
theorem kept_of_grown {w w':World} {g:Nat} {S:Nat → Prop} (h:w.grownBy w' (some g)) (hS:S g):Kept w w' S:=
  ⟨h.size,fun i hi hn=>h.block i hi (fun e=>hn (by cases e;exact hS))⟩
theorem sort_row (P0_:Nat → Prop) (u9000_:Value) (l0:List ByteArray) (w0 w:World) (hB:Below w0.heap.size w0 w) (ho0:Kd.R Kd.string 9 w w0.heap.size P0_ u9000_ l0) (hsz:l0.length < 4611686018427387904) :
    Calls Try.prog 58 #[u9000_] w fun e w'=>e=.returned (.tuple #[])∧Kd.R Kd.string 9 w' w0.heap.size (fun k_=>(P0_ k_∨w.heap.size≤k_)) u9000_ (sortF l0)∧Below w0.heap.size w0 w'∧Kept w w' (fun k_=>P0_ k_):=by
  have hown:=Kd.own_of_R ho0;have hin:=ho0.1;obtain ⟨_,hcase⟩:=hown
  rcases hcase with ⟨rfl,hn⟩|⟨g,cap,cur,rfl,hbase,hb,h1,h2,h3,h4⟩
  · obtain rfl:l0=[]:=List.length_eq_zero_iff.1 hn
    refine (Try.slices_Sort_string_none none 0 w).mono ?_
    rintro e w' ⟨rfl,rfl⟩
    rw [show sortF []=[] by simp [sortF,raw,cooked]];exact ⟨rfl,Kd.R_nil _ _ _ _ _,hB,Kept.refl _ _⟩
  · rw [encs_raw,← raw_length] at h4
    have hH:=holds_of_block hb (by simpa using h4);have hlt:g < w.heap.size:=(Array.getElem?_eq_some_iff.1 hb).1
    rw [← raw_length] at hsz h1 ⊢;refine (Try.slices_Sort_string g 0 cap (raw l0) w hH hlt hsz).mono ?_
    rintro e w' ⟨rfl,n,os,rfl⟩
    have hg:w.grownBy (grow (putRow encStr (Sort.ahead w n) g 0 ((raw l0).mergeSort fun x y=>decide (x≤y)).toArray) os) (some g):=grownBy_sorted _;have hrow:=ownsRow_sorted (n:=n) (os:=os) (ts:=(raw l0).mergeSort fun x y=>decide (x≤y)) (List.length_mergeSort _) hbase hb h1 h2 h3;have hlen:(sortF l0).length=(raw l0).length:=by unfold sortF;rw [cooked_length,List.length_mergeSort]
    refine ⟨rfl,Kd.R_of_own ?_ ?_,pw_below_grown hB (some g) hB.size hg (fun k hk=>by cases hk;exact hbase),kept_of_grown hg (hin g rfl)⟩
    · unfold sortF
      rw [encs_cooked,cooked_length,List.length_mergeSort];exact hrow
    · intro k hk
      exact .inl (hin k hk)
theorem compact_row (P0_:Nat → Prop) (u9000_:Value) (l0:List ByteArray) (w0 w:World) (hB:Below w0.heap.size w0 w) (ho0:Kd.R Kd.string 9 w w0.heap.size P0_ u9000_ l0) (hsz:l0.length < 4611686018427387904) :
    Calls Try.prog 59 #[u9000_] w fun e w'=>∃ v0_:Value,e=.returned v0_∧Kd.R Kd.string 9 w' w0.heap.size (fun k_=>True) v0_ (compactF l0)∧Below w0.heap.size w0 w'∧Kept w w' (fun k_=>P0_ k_):=by
  have hown:=Kd.own_of_R ho0;have hin:=ho0.1;obtain ⟨_,hcase⟩:=hown
  rcases hcase with ⟨rfl,hn⟩|⟨g,cap,cur,rfl,hbase,hb,h1,h2,h3,h4⟩
  · obtain rfl:l0=[]:=List.length_eq_zero_iff.1 hn
    refine (Try.slices_Compact_string_empty none 0 w).mono ?_
    rintro e w' ⟨rfl,rfl⟩
    rw [show compactF []=[] from rfl];exact ⟨_,rfl,Kd.R_nil _ _ _ _ _,hB,Kept.refl _ _⟩
  · rw [encs_raw,← raw_length] at h4
    have hH:=holds_of_block hb (by simpa using h4);rw [← raw_length] at hsz h1 ⊢;refine (Try.slices_Compact_string g 0 cap (raw l0) w hH (by omega) h1).mono ?_
    rintro e w' ⟨rfl,n,rfl⟩
    have hcl:=Lib.compact_length_le (raw l0)
    generalize hts:Lib.compact (raw l0)++List.replicate ((raw l0).length - (Lib.compact (raw l0)).length) []=ts
    have htl:ts.length=(raw l0).length:=by rw [← hts,List.length_append,List.length_replicate];omega
    have hg:w.grownBy (putRow encStr (Sort.ahead w n) g 0 ts.toArray) (some g):=by
      have:=grownBy_sorted (w:=w) (g:=g) (n:=n) (os:=#[]) ts.toArray
      rwa [grow_empty] at this
    have hrow:=ownsRow_sorted (n:=n) (os:=#[]) (ts:=ts) htl hbase hb h1 h2 h3;rw [grow_empty] at hrow;refine ⟨_,rfl,Kd.R_of_own ?_ (fun _ _=>trivial),pw_below_grown hB (some g) hB.size hg (fun k hk=>by cases hk;exact hbase),kept_of_grown hg (hin g rfl)⟩;obtain ⟨_,hr⟩:=hrow
    rcases hr with ⟨hbad,_⟩|⟨g',cap',cur',heq,hb1,hb2,hb3,hb4,hb5,hb6⟩
    · cases hbad
    · injection heq with q1 q2 q3
      injection q1 with q1
      injection q1 with q1
      subst q1 q3;unfold compactF;rw [encs_cooked,cooked_length];refine ⟨by simp,.inr ⟨_,_,_,rfl,hb1,hb2,by omega,hb4,hb5,?_⟩⟩;have e1:cur'.toList.take ((Lib.compact (raw l0)).length * 1)=(cur'.toList.take ((raw l0).length * 1)).take (Lib.compact (raw l0)).length:=by
        rw [List.take_take,Nat.min_eq_left (by omega),Nat.mul_one]
      rw [e1,hb6,← hts,List.map_append,List.take_append_of_le_length (by simp),List.take_of_length_le (by simp)]
end Go.Proofs.Ytclploookcjcbaa.SortRow
