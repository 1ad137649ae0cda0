/- Proved: what the program's ForestOk and the reference's come to is one answer, at every row of shapes; the fields of a good forest's shape. No condition beyond those each theorem states. -/
import Derived.Test.YtclploookcjcbaaPFrB
import Derived.Test.YtclploookcjcbaaPFrC
import Derived.Test.YtclploookcjcbaaEv
set_option linter.unusedVariables false
namespace Go.Proofs.Ytclploookcjcbaa.PFr
open Go Go.RowKit Go.Proofs.YtclploookcjcbaaW.PrintWords Go.Proofs.Ytclploookcjcbaa.Ev
abbrev el (l:List S75) (j:Nat):S75:=l.getD j z75
theorem rd_nat (l:List S75) (j:Nat):rT l (j:Int)=el l j:=by simp [rT,el]
theorem rd_zero (l:List S75):rT l 0=el l 0:=rd_nat l 0
theorem rd_int (l:List S75) (x:Int) (h:0≤x):rT l x=el l x.toNat:=by simp [rT,el]
def kb (l:List S75) (j:Nat):List UInt8:=(el l j).f1.data.toList
theorem toList_kb (b:ByteArray):b.toList=b.data.toList:=by
  obtain ⟨⟨l⟩⟩:=b;exact ByteArray.toList_mk l
/-- Shape j breaks the third rule. -/
def bad (l:List S75) (j:Nat):Prop:=(el l j).f0 < 0∨(el l j).f0≥(j:Int)∨(el l j).f2≠wrap64 ((el l (el l j).f0.toNat).f2+1)∨(el l j).f2 > 12∨((el l j).f1.size:Int) > 4000
theorem spec_l0_at_bad (l:List S75) (j:Nat) (hj:j < l.length) (hb:bad l j) (k:Nat):sFO.l0 (k+1) l.length j l=some 3:=by
  simp only [sFO.l0];rw [if_pos (by omega),if_pos (by omega),if_pos (by omega),rd_nat]
  by_cases h0:(el l j).f0 < 0
  · rw [if_pos h0]
  rw [if_neg h0]
  by_cases h1:(el l j).f0≥(j:Int)
  · rw [if_pos h1]
  rw [if_neg h1,if_pos (by omega),if_pos (by omega),rd_int _ _ (by omega)]
  by_cases h2:(el l j).f2=wrap64 ((el l (el l j).f0.toNat).f2+1)
  · rw [if_pos h2]
    by_cases h3:(el l j).f2 > 12
    · rw [if_pos h3]
    · rw [if_neg h3]
      by_cases h4:((el l j).f1.size:Int) > 4000
      · rw [if_pos h4]
      · rcases hb with h|h|h|h|h
        · exact absurd h h0
        · exact absurd h h1
        · exact absurd h2 h
        · exact absurd h h3
        · exact absurd h h4
  · rw [if_neg h2]
theorem spec_l0_at_good (l:List S75) (j:Nat) (hj:j < l.length) (hl:l.length≤200) (hb:¬ bad l j) (k:Nat):sFO.l0 (k+1) l.length j l=sFO.l0 k l.length ((j+1:Nat):Int) l:=by
  unfold bad at hb;simp only [not_or] at hb;obtain ⟨h0,h1,h2,h3,h4⟩:=hb;simp only [sFO.l0];rw [if_pos (by omega),if_pos (by omega),if_pos (by omega),rd_nat,if_neg h0,if_neg h1,if_pos (by omega),if_pos (by omega),rd_int _ _ (by omega),if_pos (Classical.not_not.1 h2),if_neg h3,if_neg h4,w1 j (by omega)]
theorem impl_l0_at_bad (l:List S75) (j:Nat) (hj:j+1 < l.length) (hb:bad l (j+1)) (k:Nat):iFO.l0 (k+1) (l.drop 1) ((l.drop 1).length:Int) j l=some 3:=by
  have e:rT (l.drop 1) (j:Int)=el l (j+1):=by
    rw [rd_nat];unfold el;rw [List.getD_eq_getElem?_getD,List.getD_eq_getElem?_getD,List.getElem?_drop,Nat.add_comm]
  simp only [iFO.l0];have hlen:(l.drop 1).length=l.length - 1:=List.length_drop;rw [if_pos (by omega),if_pos (by omega),if_pos (by omega),e]
  by_cases h0:(el l (j+1)).f0 < 0
  · rw [if_pos h0]
  rw [if_neg h0]
  by_cases h1:(el l (j+1)).f0 > (j:Int)
  · rw [if_pos h1]
  rw [if_neg h1,if_pos (by omega),if_pos (by omega),rd_int _ _ (by omega)]
  by_cases h2:(el l (j+1)).f2=wrap64 ((el l (el l (j+1)).f0.toNat).f2+1)
  · rw [if_pos h2]
    by_cases h3:(el l (j+1)).f2 > 12
    · rw [if_pos h3]
    · rw [if_neg h3]
      by_cases h4:((el l (j+1)).f1.size:Int) > 4000
      · rw [if_pos h4]
      · rcases hb with h|h|h|h|h
        · exact absurd h h0
        · exact absurd (by omega) h1
        · exact absurd h2 h
        · exact absurd h h3
        · exact absurd h h4
  · rw [if_neg h2]
theorem impl_l0_at_good (l:List S75) (j:Nat) (hj:j+1 < l.length) (hl:l.length≤200) (hb:¬ bad l (j+1)) (k:Nat):iFO.l0 (k+1) (l.drop 1) ((l.drop 1).length:Int) j l=iFO.l0 k (l.drop 1) ((l.drop 1).length:Int) ((j+1:Nat):Int) l:=by
  have e:rT (l.drop 1) (j:Int)=el l (j+1):=by
    rw [rd_nat];unfold el;rw [List.getD_eq_getElem?_getD,List.getD_eq_getElem?_getD,List.getElem?_drop,Nat.add_comm]
  unfold bad at hb;simp only [not_or] at hb;obtain ⟨h0,h1,h2,h3,h4⟩:=hb;simp only [iFO.l0];have hlen:(l.drop 1).length=l.length - 1:=List.length_drop;rw [if_pos (by omega),if_pos (by omega),if_pos (by omega),e,if_neg h0,if_neg (by omega),if_pos (by omega),if_pos (by omega),rd_int _ _ (by omega),if_pos (Classical.not_not.1 h2),if_neg h3,if_neg h4,w1 j (by omega)]
theorem spec_l0_bad (l:List S75) (hl:l.length≤200):∀ d j,j+d=l.length → (∃ i,j≤i∧i < l.length∧bad l i) → Co (fun k=>sFO.l0 k l.length j l) 3
  |0,j,hd,⟨i,h1,h2,_⟩=>absurd h2 (by omega)
  |d+1,j,hd,⟨i,h1,h2,h3⟩=>by
    by_cases hb:bad l j
    · exact Co.step_const (spec_l0_at_bad l j (by omega) hb)
    · refine Co.step (spec_l0_at_good l j (by omega) hl hb) (spec_l0_bad l hl d (j+1) (by omega) ⟨i,?_,h2,h3⟩)
      rcases Nat.lt_or_ge j i with q|q
      · exact q
      · obtain rfl:i=j:=by omega
        exact absurd h3 hb
theorem spec_l0_good (l:List S75) (hl:l.length≤200) (c:Int) (hc:Co (fun k=>sFO.l1 k l.length 1 l) c):∀ d j,j+d=l.length → (∀ i,j≤i → i < l.length → ¬ bad l i) → Co (fun k=>sFO.l0 k l.length j l) c
  |0,j,hd,hg=>Co.step (g:=fun k=>sFO.l1 k l.length 1 l) (fun k=>by simp only [sFO.l0];rw [if_neg (by omega)]) hc
  |d+1,j,hd,hg=>Co.step (spec_l0_at_good l j (by omega) hl (hg j (by omega) (by omega))) (spec_l0_good l hl c hc d (j+1) (by omega) (fun i h1 h2=>hg i (by omega) h2))
theorem impl_l0_bad (l:List S75) (hl:l.length≤200):∀ d j,j+1+d=l.length → (∃ i,j+1≤i∧i < l.length∧bad l i) → Co (fun k=>iFO.l0 k (l.drop 1) ((l.drop 1).length:Int) j l) 3
  |0,j,hd,⟨i,h1,h2,_⟩=>absurd h2 (by omega)
  |d+1,j,hd,⟨i,h1,h2,h3⟩=>by
    by_cases hb:bad l (j+1)
    · exact Co.step_const (impl_l0_at_bad l j (by omega) hb)
    · refine Co.step (impl_l0_at_good l j (by omega) hl hb) (impl_l0_bad l hl d (j+1) (by omega) ⟨i,?_,h2,h3⟩)
      rcases Nat.lt_or_ge (j+1) i with q|q
      · exact q
      · obtain rfl:i=j+1:=by omega
        exact absurd h3 hb
def kids (l:List S75):List (Int × ByteArray):=l.map fun y=>(y.f0,y.f1)
/-- What the program comes to when each shape keeps the third rule. -/
theorem impl_l0_good (l:List S75) (hl:l.length≤200) (c:Int) (hf:SetMap.keysFit (kids l)=true) (hd4:SetMap.dupB (kids l)=true → c=4) (hn4:SetMap.dupB (kids l)=false → Co (fun k=>iFO.l1 k l.length 0 l) c):∀ d j,j+1+d=l.length → (∀ i,j+1≤i → i < l.length → ¬ bad l i) → Co (fun k=>iFO.l0 k (l.drop 1) ((l.drop 1).length:Int) j l) c
  |0,j,hd,hg=>by
    have hlen:(l.drop 1).length=l.length - 1:=List.length_drop;have hstep:∀ k,iFO.l0 (k+1) (l.drop 1) ((l.drop 1).length:Int) j l=(if SetMap.dupB (kids l)=true then some 4 else iFO.l1 k l.length 0 l):=by
      intro k
      simp only [iFO.l0];rw [if_neg (by omega)]
      show (if SetMap.keysFit (kids l)=true then _ else _)=_
      rw [if_pos hf];rfl
    cases hb:SetMap.dupB (kids l) with
    |true=>
      rw [hd4 hb];exact Co.step_const fun k=>by rw [hstep,hb];rfl
    |false=>exact Co.step (g:=fun k=>iFO.l1 k l.length 0 l) (fun k=>by rw [hstep,hb];rfl) (hn4 hb)
  |d+1,j,hd,hg=>Co.step (impl_l0_at_good l j (by omega) hl (hg (j+1) (by omega) (by omega))) (impl_l0_good l hl c hf hd4 hn4 d (j+1) (by omega) (fun i h1 h2=>hg i (by omega) h2))
/-! the fourth rule -/
def same (l:List S75) (a b:Nat):Prop:=(el l a).f0=(el l b).f0∧kb l a=kb l b
theorem spec_l2_step (l:List S75) (a b:Nat) (hab:a < b) (hb:b < l.length) (hl:l.length≤200) (k:Nat):(same l a b → sFO.l2 (k+1) l.length b a l=some 4)∧(¬ same l a b → sFO.l2 (k+1) l.length b a l=sFO.l2 k l.length b ((a+1:Nat):Int) l):=by
  simp only [sFO.l2];rw [if_pos (by omega),if_pos (by omega),if_pos (by omega),if_pos (by omega),if_pos (by omega),rd_nat,rd_nat,toList_kb,toList_kb,w1 a (by omega)];unfold same kb
  by_cases h0:(el l a).f0=(el l b).f0
  · by_cases h1:(el l a).f1.data.toList=(el l b).f1.data.toList
    · rw [if_pos h0,if_pos h1]
      exact ⟨fun _=>rfl,fun h=>absurd ⟨h0,h1⟩ h⟩
    · rw [if_pos h0,if_neg h1]
      exact ⟨fun h=>absurd h.2 h1,fun _=>rfl⟩
  · rw [if_neg h0]
    exact ⟨fun h=>absurd h.1 h0,fun _=>rfl⟩
theorem spec_l2_bad (l:List S75) (hl:l.length≤200) (b:Nat) (hb:b < l.length):∀ d a,a+d=b → (∃ i,a≤i∧i < b∧same l i b) → Co (fun k=>sFO.l2 k l.length b a l) 4
  |0,a,hd,⟨i,h1,h2,_⟩=>absurd h2 (by omega)
  |d+1,a,hd,⟨i,h1,h2,h3⟩=>by
    by_cases hs:same l a b
    · exact Co.step_const fun k=>(spec_l2_step l a b (by omega) hb hl k).1 hs
    · refine Co.step (fun k=>(spec_l2_step l a b (by omega) hb hl k).2 hs) (spec_l2_bad l hl b hb d (a+1) (by omega) ⟨i,?_,h2,h3⟩)
      rcases Nat.lt_or_ge a i with q|q
      · exact q
      · obtain rfl:i=a:=by omega
        exact absurd h3 hs
theorem spec_l2_good (l:List S75) (hl:l.length≤200) (b:Nat) (hb:b < l.length) (c:Int) (hc:Co (fun k=>sFO.l1 k l.length ((b+1:Nat):Int) l) c):∀ d a,a+d=b → (∀ i,a≤i → i < b → ¬ same l i b) → Co (fun k=>sFO.l2 k l.length b a l) c
  |0,a,hd,hg=>Co.step (g:=fun k=>sFO.l1 k l.length ((b+1:Nat):Int) l) (fun k=>by simp only [sFO.l2];rw [if_neg (by omega),w1 b (by omega)]) hc
  |d+1,a,hd,hg=>Co.step (fun k=>(spec_l2_step l a b (by omega) hb hl k).2 (hg a (by omega) (by omega))) (spec_l2_good l hl b hb c hc d (a+1) (by omega) (fun i h1 h2=>hg i (by omega) h2))
theorem spec_l1_to_l2 (l:List S75) (b:Nat) (hb:b < l.length) (k:Nat):sFO.l1 (k+1) l.length b l=sFO.l2 k l.length b ((1:Nat):Int) l:=by
  simp only [sFO.l1];rw [if_pos (by omega)];rfl
theorem spec_l1_bad (l:List S75) (hl:l.length≤200):∀ d b,1≤b → b+d=l.length → (∃ i j,1≤i∧i < j∧b≤j∧j < l.length∧same l i j) → Co (fun k=>sFO.l1 k l.length b l) 4
  |0,b,_,hd,⟨i,j,h1,h2,h3,h4,_⟩=>absurd h4 (by omega)
  |d+1,b,hb1,hd,⟨i,j,h1,h2,h3,h4,h5⟩=>by
    refine Co.step (spec_l1_to_l2 l b (by omega)) ?_
    by_cases hs:∃ i,1≤i∧i < b∧same l i b
    · exact spec_l2_bad l hl b (by omega) (b - 1) 1 (by omega) hs
    · refine spec_l2_good l hl b (by omega) 4 (spec_l1_bad l hl d (b+1) (by omega) (by omega) ⟨i,j,h1,h2,?_,h4,h5⟩) (b - 1) 1 (by omega) (fun i' q1 q2 q3=>hs ⟨i',q1,q2,q3⟩)
      rcases Nat.lt_or_ge b j with q|q
      · exact q
      · obtain rfl:j=b:=by omega
        exact absurd ⟨i,h1,h2,h5⟩ hs
theorem spec_l1_good (l:List S75) (hl:l.length≤200) (c:Int) (hc:Co (fun k=>sFO.l3 k l.length 1 l) c):∀ d b,1≤b → b+d=l.length → (∀ i j,1≤i → i < j → b≤j → j < l.length → ¬ same l i j) → Co (fun k=>sFO.l1 k l.length b l) c
  |0,b,_,hd,hg=>Co.step (g:=fun k=>sFO.l3 k l.length 1 l) (fun k=>by simp only [sFO.l1];rw [if_neg (by omega)]) hc
  |d+1,b,hb1,hd,hg=>Co.step (spec_l1_to_l2 l b (by omega)) (spec_l2_good l hl b (by omega) c (spec_l1_good l hl c hc d (b+1) (by omega) (by omega) (fun i j h1 h2 h3 h4=>hg i j h1 h2 (by omega) h4)) (b - 1) 1 (by omega) (fun i h1 h2=>hg i b h1 h2 (by omega) (by omega)))
/-! the fifth rule -/
def Par (l:List S75):Prop:=∀ j,1≤j → j < l.length → 0≤(el l j).f0∧(el l j).f0 < (j:Int)
def ks (l:List S75):Nat → Nat → List ByteArray
  |0,_=>[]
  |f+1,p=>if p=0 then [] else (el l p).f1 :: ks l f (el l p).f0.toNat
theorem ks_stable (l:List S75) (hP:Par l):∀ f p,p < l.length → p≤f → ks l f p=ks l p p
  |f,0,_,_=>by cases f <;> simp [ks]
  |0,p+1,_,h=>absurd h (by omega)
  |f+1,p+1,hp,h=>by
    have hh:=hP (p+1) (by omega) hp;simp only [ks];rw [if_neg (by omega),if_neg (by omega)]
    congr 1
    rw [ks_stable l hP f _ (by omega) (by omega),ks_stable l hP p _ (by omega) (by omega)]
/-- The keys from shape p up to the root. -/
def K (l:List S75) (p:Nat):List ByteArray:=ks l p p
theorem K_zero (l:List S75):K l 0=[]:=rfl
theorem K_pos (l:List S75) (hP:Par l) (p:Nat) (h0:0 < p) (hp:p < l.length):K l p=(el l p).f1 :: K l (el l p).f0.toNat:=by
  unfold K;obtain ⟨q,rfl⟩:∃ q,p=q+1:=⟨p - 1,by omega⟩
  have hh:=hP (q+1) (by omega) hp
  conv=>lhs;simp only [ks]
  rw [if_neg (by omega),ks_stable l hP q _ (by omega) (by omega)]
theorem K_len (l:List S75) (hP:Par l):∀ p,p < l.length → (K l p).length≤p:=by
  intro p
  induction p using Nat.strongRecOn with
  |_ p ih=>
    intro hp
    by_cases h0:p=0
    · subst h0;simp [K_zero]
    · have hh:=hP p (by omega) hp
      rw [K_pos l hP p (by omega) hp,List.length_cons]
      have:=ih (el l p).f0.toNat (by omega) (by omega)
      omega
def Kb (l:List S75) (p:Nat):List (List UInt8):=(K l p).map fun s=>s.data.toList
theorem Kb_pos (l:List S75) (hP:Par l) (p:Nat) (h0:0 < p) (hp:p < l.length):Kb l p=kb l p :: Kb l (el l p).f0.toNat:=by
  unfold Kb;rw [K_pos l hP p h0 hp];rfl
theorem spec_l4 (l:List S75) (hl:l.length≤200) (hP:Par l) (i:Nat) (hi:i < l.length) (c:Int):∀ p,p < l.length → ((kb l i ∈ Kb l p → c=5)∧(kb l i ∉ Kb l p → Co (fun k=>sFO.l3 k l.length ((i+1:Nat):Int) l) c)) → Co (fun k=>sFO.l4 k l.length i p l) c:=by
  intro p
  induction p using Nat.strongRecOn with
  |_ p ih=>
    intro hp ⟨h5,hn⟩
    by_cases h0:p=0
    · subst h0
      refine Co.step (g:=fun k=>sFO.l3 k l.length ((i+1:Nat):Int) l) (fun k=>?_) (hn (by simp [Kb,K_zero]));simp only [sFO.l4];rw [if_neg (by omega),w1 i (by omega)]
    · have hh:=hP p (by omega) hp
      rw [Kb_pos l hP p (by omega) hp] at h5 hn
      by_cases e:kb l p=kb l i
      · rw [h5 (by rw [e];exact List.mem_cons_self)]
        refine Co.step_const fun k=>?_
        simp only [sFO.l4];rw [if_pos (by omega),if_pos (by omega),if_pos (by omega),if_pos (by omega),if_pos (by omega),rd_nat,rd_nat,toList_kb,toList_kb,if_pos (show (el l p).f1.data.toList=(el l i).f1.data.toList from e)]
      · refine Co.step (g:=fun k=>sFO.l4 k l.length i ((el l p).f0.toNat:Int) l) (fun k=>?_) (ih (el l p).f0.toNat (by omega) (by omega) ⟨fun h=>h5 (List.mem_cons_of_mem _ h),fun h=>hn (fun h'=>by rcases List.mem_cons.1 h' with q|q;exact e q.symm;exact h q)⟩)
        simp only [sFO.l4];rw [if_pos (by omega),if_pos (by omega),if_pos (by omega),if_pos (by omega),if_pos (by omega),rd_nat,rd_nat,toList_kb,toList_kb,if_neg (show ¬ (el l p).f1.data.toList=(el l i).f1.data.toList from e),Int.toNat_of_nonneg hh.1]
def rep (l:List S75) (i:Nat):Prop:=kb l i ∈ Kb l (el l i).f0.toNat
theorem spec_l3 (l:List S75) (hl:l.length≤200) (hP:Par l) (c:Int):∀ d i,1≤i → i+d=l.length → ((∃ j,i≤j∧j < l.length∧rep l j) → c=5) → ((∀ j,i≤j → j < l.length → ¬ rep l j) → c=0) → Co (fun k=>sFO.l3 k l.length i l) c
  |0,i,h1,hd,h5,h0=>by
    rw [h0 (fun j q1 q2=>absurd q2 (by omega))];refine Co.step_const fun k=>?_
    simp only [sFO.l3];rw [if_neg (by omega)]
  |d+1,i,h1,hd,h5,h0=>by
    have hh:=hP i (by omega) (by omega);refine Co.step (g:=fun k=>sFO.l4 k l.length i ((el l i).f0.toNat:Int) l) (fun k=>?_) (spec_l4 l hl hP i (by omega) c _ (by omega) ⟨fun h=>h5 ⟨i,by omega,by omega,h⟩,fun h=>?_⟩)
    · simp only [sFO.l3]
      rw [if_pos (by omega),if_pos (by omega),if_pos (by omega),rd_nat,Int.toNat_of_nonneg hh.1]
    · refine spec_l3 l hl hP c d (i+1) (by omega) (by omega) (fun ⟨j,q1,q2,q3⟩=>h5 ⟨j,by omega,q2,q3⟩) (fun hg=>h0 fun j q1 q2=>?_)
      rcases Nat.lt_or_ge i j with q|q
      · exact hg j q q2
      · obtain rfl:j=i:=by omega
        exact h
/-- The keys of shape i are told apart just when no shape from it up repeats a key. -/
theorem nodup_K (l:List S75) (hP:Par l) (i:Nat) (h0:0 < i) (hi:i < l.length):(Kb l i).Nodup ↔ (¬ rep l i∧(Kb l (el l i).f0.toNat).Nodup):=by
  rw [Kb_pos l hP i h0 hi,List.nodup_cons];rfl
theorem nodup_of_norep (l:List S75) (hP:Par l) (h:∀ j,1≤j → j < l.length → ¬ rep l j):∀ i,i < l.length → (Kb l i).Nodup:=by
  intro i
  induction i using Nat.strongRecOn with
  |_ i ih=>
    intro hi
    by_cases h0:i=0
    · subst h0;simp [Kb,K_zero]
    · have hh:=hP i (by omega) hi
      exact (nodup_K l hP i (by omega) hi).2 ⟨h i (by omega) hi,ih _ (by omega) (by omega)⟩
/-! the program's fields -/
theorem rdOf_nat (x:List ByteArray) (i:Nat):rdOf ByteArray.empty x (i:Int)=x.getD i ByteArray.empty:=by simp [rdOf]
theorem reverse_l0 (x:List ByteArray) (hx:x.length < 4611686018427387904):∀ d y i,d=x.length - i → RevAt x y i → 2 * i≤x.length+1 → Co (fun k=>sRev.l0 k y i ((x.length:Int) - 1 - i)) x.reverse
  |0,y,i,hd,hy,hi=>Co.step_const fun k=>by
      simp only [sRev.l0];rw [if_neg (by omega),hy.done (by omega)]
  |d+1,y,i,hd,hy,hi=>by
    by_cases h:(i:Int) < (x.length:Int) - 1 - i
    · have hl:=hy.1
      have ej:((x.length:Int) - 1 - i)=((x.length - 1 - i:Nat):Int):=by omega
      refine Co.step (g:=fun k=>sRev.l0 k ((y.set i (y.getD (x.length - 1 - i) ByteArray.empty)).set (x.length - 1 - i) (y.getD i ByteArray.empty)) ((i+1:Nat):Int) ((x.length:Int) - 1 - ((i+1:Nat):Int))) (fun k=>?_) (reverse_l0 x hx d _ (i+1) (by omega) (hy.swap (by omega) (by omega)) (by omega));simp only [sRev.l0];rw [if_pos h,if_pos (by omega),if_pos (by omega),if_pos (by omega),if_pos (by omega),w1 i (by omega),IntWalk.wrap64_in _ ⟨by omega,by omega⟩,ej,rdOf_nat,rdOf_nat]
      congr 1
      omega
    · refine Co.step_const fun k=>?_
      simp only [sRev.l0];rw [if_neg h,hy.done (by omega)]
theorem reverse_ev (x:List ByteArray) (hx:x.length < 4611686018427387904):Co (fun k=>sRev.f k x) x.reverse:=by
  refine Co.of_eq (g:=fun k=>sRev.l0 k x ((0:Nat):Int) ((x.length:Int) - 1 - ((0:Nat):Int))) (fun k=>?_) (reverse_l0 x hx _ x 0 rfl (RevAt.zero x) (by omega));simp only [sRev.f];rw [IntWalk.wrap64_in _ ⟨by omega,by omega⟩]
  congr 1
  omega
theorem fields_l0 (l:List S75) (hl:l.length≤200) (hP:Par l):∀ p,p < l.length → ∀ acc:List ByteArray,acc.length+p < 8796093022208 → Co (fun k=>iFf.l0 k p acc l) (acc++K l p).reverse:=by
  intro p
  induction p using Nat.strongRecOn with
  |_ p ih=>
    intro hp acc hacc
    by_cases h0:p=0
    · subst h0
      rw [K_zero,List.append_nil];refine Co.step (g:=fun k=>(sRev.f k acc).bind fun t=>some t) (fun k=>?_) (Co.bind (reverse_ev acc (by omega)) (Co.const _));simp only [iFf.l0];rw [if_neg (by omega)]
    · have hh:=hP p (by omega) hp
      rw [K_pos l hP p (by omega) hp];refine Co.step (g:=fun k=>iFf.l0 k ((el l p).f0.toNat:Int) (acc++[(el l p).f1]) l) (fun k=>?_) ?_
      · simp only [iFf.l0]
        rw [if_pos (by omega),if_pos (by omega),if_pos (by omega),if_pos (by omega),rd_nat,Int.toNat_of_nonneg hh.1]
      · have:=ih (el l p).f0.toNat (by omega) (by omega) (acc++[(el l p).f1]) (by rw [List.length_append,List.length_singleton];omega)
        rwa [List.append_assoc] at this
theorem fields_ev (l:List S75) (hl:l.length≤200) (hP:Par l) (p:Nat) (hp:p < l.length):Co (fun k=>iFf.f k l p) (K l p).reverse:=by
  have:=fields_l0 l hl hP p hp [] (by simp;omega)
  rw [List.nil_append] at this;exact this
/-- The count of a shape is the number of its keys. -/
def Cnt (l:List S75):Prop:=∀ i,i < l.length → (el l i).f2=((K l i).length:Int)
theorem cnt_of (l:List S75) (hl:l.length≤200) (hP:Par l) (h0:(el l 0).f2=0) (hg:∀ i,1≤i → i < l.length → ¬ bad l i):Cnt l:=by
  intro i
  induction i using Nat.strongRecOn with
  |_ i ih=>
    intro hi
    by_cases h:i=0
    · subst h;rw [h0,K_zero];rfl
    · have hh:=hP i (by omega) hi
      have hb:=hg i (by omega) hi;unfold bad at hb;simp only [not_or] at hb;have e:=Classical.not_not.1 hb.2.2.1
      have:=K_len l hP (el l i).f0.toNat (by omega)
      rw [e,ih (el l i).f0.toNat (by omega) (by omega),K_pos l hP i (by omega) hi,List.length_cons,w1 _ (by omega)]
theorem impl_l1 (l:List S75) (hl:l.length≤200) (hP:Par l) (hC:Cnt l) (c:Int):∀ d i,i+d=l.length → ((∃ j,i≤j∧j < l.length∧¬ (Kb l j).Nodup) → c=5) → ((∀ j,i≤j → j < l.length → (Kb l j).Nodup) → c=0) → Co (fun k=>iFO.l1 k l.length i l) c
  |0,i,hd,h5,h0=>by
    rw [h0 (fun j q1 q2=>absurd q2 (by omega))];refine Co.step_const fun k=>?_
    simp only [iFO.l1];rw [if_neg (by omega)]
  |d+1,i,hd,h5,h0=>by
    have hf:=fields_ev l hl hP i (by omega);have hlen:=K_len l hP i (by omega);have hn:((SortRow.compactF (SortRow.sortF (K l i).reverse)).length=(K l i).length) ↔ (Kb l i).Nodup:=by
      have hs:=sortcompact (K l i).reverse;rw [List.length_reverse] at hs;rw [hs,List.map_reverse];exact (List.reverse_perm _).nodup_iff
    refine Co.step (g:=fun k=>(iFf.f k l i).bind fun t121=>((sSort.f t121).bind fun t124=>((sComp.f t124).bind fun t125=>(if 0≤(i:Int) then (if (i:Int) < (l.length:Int) then (if (t125.length:Int)=((rT l i).f2) then (iFO.l1 k l.length (wrap64 ((i:Int)+1)) l) else (some 5)) else none) else none)))) (fun k=>?_) (Co.bind hf (Co.bindc (a:=SortRow.sortF (K l i).reverse) ?_ (Co.bindc (a:=SortRow.compactF (SortRow.sortF (K l i).reverse)) ?_ ?_)))
    · simp only [iFO.l1]
      rw [if_pos (by omega)]
    · unfold sSort.f
      rw [if_pos (by rw [List.length_reverse];omega)]
    · unfold sComp.f
      rw [if_pos (by rw [sort_length,List.length_reverse];omega)]
    · simp only [rd_nat,hC i (by omega)]
      by_cases hd':(Kb l i).Nodup
      · refine Co.of_eq (g:=fun k=>iFO.l1 k l.length ((i+1:Nat):Int) l) (fun k=>?_) (impl_l1 l hl hP hC c d (i+1) (by omega) (fun ⟨j,q1,q2,q3⟩=>h5 ⟨j,by omega,q2,q3⟩) (fun hg=>h0 fun j q1 q2=>?_))
        · rw [if_pos (by omega),if_pos (by omega),if_pos (by rw [hn.2 hd']),w1 i (by omega)]
        · rcases Nat.lt_or_ge i j with q|q
          · exact hg j q q2
          · obtain rfl:j=i:=by omega
            exact hd'
      · rw [h5 ⟨i,by omega,by omega,hd'⟩]
        refine Co.of_eq (g:=fun k=>some 5) (fun k=>?_) (Co.const _);rw [if_pos (by omega),if_pos (by omega),if_neg (fun h=>hd' (hn.1 (by omega)))]
/-! the answer -/
def dup (l:List S75):Prop:=∃ i j,1≤i∧i < j∧j < l.length∧same l i j
theorem kids_at (l:List S75) (j:Nat) (hj:j < l.length):(kids l)[j]! = ((el l j).f0,(el l j).f1):=by
  unfold kids el;rw [getElem!_pos _ _ (by rw [List.length_map];omega),List.getElem_map,List.getD_eq_getElem?_getD,List.getElem?_eq_getElem hj,Option.getD_some]
theorem mem_kids (l:List S75):∀ j,j≤l.length → ∀ p s,SetMap.memUpto (kids l) j p s=true ↔ ∃ i,i < j∧(el l i).f0=p∧kb l i=s
  |0,_,p,s=>by simp [SetMap.mem_zero]
  |j+1,hj,p,s=>by
    rw [SetMap.mem_step (kids l) j (by unfold kids;rw [List.length_map];omega),kids_at l j (by omega),Bool.or_eq_true,mem_kids l j (by omega) p s];simp only [Bool.and_eq_true,beq_iff_eq];constructor
    · rintro (⟨i,h1,h2⟩|⟨h1,h2⟩)
      · exact ⟨i,by omega,h2⟩
      · exact ⟨j,by omega,h1,h2⟩
    · rintro ⟨i,h1,h2⟩
      rcases Nat.lt_or_ge i j with q|q
      · exact .inl ⟨i,q,h2⟩
      · obtain rfl:i=j:=by omega
        exact .inr h2
theorem dup_kids (l:List S75):∀ j,j≤l.length → (SetMap.dupUpto (kids l) j=true ↔ ∃ a b,a < b∧b < j∧same l a b)
  |0,_=>by simp [SetMap.dup_zero]
  |j+1,hj=>by
    rw [SetMap.dup_step,kids_at l j (by omega),Bool.or_eq_true,dup_kids l j (by omega),mem_kids l j (by omega)];constructor
    · rintro (⟨a,b,h1,h2,h3⟩|⟨i,h1,h2,h3⟩)
      · exact ⟨a,b,h1,by omega,h3⟩
      · exact ⟨i,j,h1,by omega,h2,h3⟩
    · rintro ⟨a,b,h1,h2,h3⟩
      rcases Nat.lt_or_ge b j with q|q
      · exact .inl ⟨a,b,h1,q,h3⟩
      · obtain rfl:b=j:=by omega
        exact .inr ⟨a,h1,h3.1,h3.2⟩
theorem dupB_iff (l:List S75) (hP:Par l) (h0:(el l 0).f0 = -1):SetMap.dupB (kids l)=true ↔ dup l:=by
  unfold SetMap.dupB;rw [show (kids l).length=l.length from List.length_map _,dup_kids l _ (Nat.le_refl _)];constructor
  · rintro ⟨a,b,h1,h2,h3⟩
    have:=hP b (by omega) h2
    refine ⟨a,b,?_,h1,h2,h3⟩
    rcases Nat.eq_zero_or_pos a with q|q
    · subst q
      have:=h3.1
      omega
    · exact q
  · rintro ⟨a,b,_,h1,h2,h3⟩
    exact ⟨a,b,h1,h2,h3⟩
theorem fit_kids (l:List S75) (hl:l.length≤200) (h0:(el l 0).f0 = -1) (h1:(el l 0).f1.data.toList=[]) (hg:∀ i,1≤i → i < l.length → ¬ bad l i):SetMap.keysFit (kids l)=true:=by
  unfold SetMap.keysFit;rw [List.all_eq_true];intro x hx
  obtain ⟨j,hj,rfl⟩:=List.getElem_of_mem hx
  have hj':j < l.length:=by simpa [kids] using hj
  have:=kids_at l j hj'
  rw [getElem!_pos (kids l) j hj] at this;rw [this];have hwf:∀ x:Int,-9223372036854775808≤x → x≤9223372036854775807 → (Lit.int .i64 x).wf=true:=fun x h1 h2=>WalkArith.wf_i64 ⟨h1,h2⟩
  have hm:maxLen=9223372036854775807:=by unfold maxLen;omega
  simp only [Bool.and_eq_true,decide_eq_true_eq]
  by_cases hz:j=0
  · subst hz
    refine ⟨hwf _ (by omega) (by omega),?_⟩
    have:(el l 0).f1.data.size=0:=by rw [← Array.length_toList,h1];rfl
    show (el l 0).f1.data.size≤_
    omega
  · have hb:=hg j (by omega) hj'
    unfold bad at hb;simp only [not_or] at hb;exact ⟨hwf _ (by omega) (by omega),by omega⟩
theorem par_of (l:List S75) (hg:∀ i,1≤i → i < l.length → ¬ bad l i):Par l:=by
  intro j h1 h2
  have hb:=hg j h1 h2;unfold bad at hb;simp only [not_or] at hb
  omega
/-- A forest that keeps the five rules. -/
structure Good (l:List S75):Prop where
  pos:1≤l.length
  le:l.length≤200
  r0:(el l 0).f0 = -1
  r1:kb l 0=[]
  r2:(el l 0).f2=0
  ok:∀ i,1≤i → i < l.length → ¬ bad l i
  nodup:¬ dup l
  norep:∀ i,1≤i → i < l.length → ¬ rep l i
open Classical in
noncomputable def code (l:List S75):Int:=
  if l.length=0∨200 < l.length then 1 else if ¬ ((el l 0).f0 = -1∧kb l 0=[]∧(el l 0).f2=0) then 2 else if ∃ i,1≤i∧i < l.length∧bad l i then 3 else if dup l then 4 else if ∃ i,1≤i∧i < l.length∧rep l i then 5 else 0
theorem code_zero (l:List S75):code l=0 ↔ Good l:=by
  unfold code;constructor
  · intro h
    by_cases h1:l.length=0∨200 < l.length
    · rw [if_pos h1] at h;omega
    rw [if_neg h1] at h
    by_cases h2:(el l 0).f0 = -1∧kb l 0=[]∧(el l 0).f2=0
    · rw [if_neg (by simpa using h2)] at h
      by_cases h3:∃ i,1≤i∧i < l.length∧bad l i
      · rw [if_pos h3] at h;omega
      rw [if_neg h3] at h
      by_cases h4:dup l
      · rw [if_pos h4] at h;omega
      rw [if_neg h4] at h
      by_cases h5:∃ i,1≤i∧i < l.length∧rep l i
      · rw [if_pos h5] at h;omega
      exact ⟨by omega,by omega,h2.1,h2.2.1,h2.2.2,fun i q1 q2 q3=>h3 ⟨i,q1,q2,q3⟩,h4,fun i q1 q2 q3=>h5 ⟨i,q1,q2,q3⟩⟩
    · rw [if_pos h2] at h;omega
  · intro g
    have:=g.pos
    have:=g.le
    rw [if_neg (by omega),if_neg (by simpa using ⟨g.r0,g.r1,g.r2⟩),if_neg (fun ⟨i,q1,q2,q3⟩=>g.ok i q1 q2 q3),if_neg g.nodup,if_neg (fun ⟨i,q1,q2,q3⟩=>g.norep i q1 q2 q3)]
theorem spec_code (l:List S75):Co (fun k=>sFO.f k l) (code l):=by
  unfold sFO.f code
  by_cases h1:l.length=0∨200 < l.length
  · rw [if_pos h1]
    by_cases hz:(l.length:Int)=0
    · simp only [if_pos hz]
      exact Co.step_const fun k=>by simp only [sFO.j0];rfl
    · simp only [if_neg hz]
      exact Co.step_const fun k=>by simp only [sFO.j0];rw [if_pos (decide_eq_true (by omega))]
  · rw [if_neg h1]
    simp only [if_neg (show ¬ (l.length:Int)=0 by omega)];have hj0:∀ k,sFO.j0 (k+1) l.length (decide ((l.length:Int) > 200)) l=sFO.j1 k l.length (!decide ((el l 0).f0 = -1∧kb l 0=[]∧(el l 0).f2=0)) l:=by
      intro k
      simp only [sFO.j0];rw [if_neg (by simp;omega),if_pos (by omega),rd_zero,toList_kb];unfold kb
      generalize el l 0=e
      by_cases a0:e.f0 = -1 <;> by_cases a1:e.f1.data.toList=[] <;> by_cases a2:e.f2=0 <;> simp [a0,a1,a2]
      all_goals rw [show (e.f2 != 0)=true from bne_iff_ne.2 a2]
    refine Co.step hj0 ?_
    by_cases h2:(el l 0).f0 = -1∧kb l 0=[]∧(el l 0).f2=0
    · rw [if_neg (by simpa using h2)]
      refine Co.step (g:=fun k=>sFO.l0 k l.length ((1:Nat):Int) l) (fun k=>by simp only [sFO.j1];rw [decide_eq_true h2];rfl) ?_
      by_cases h3:∃ i,1≤i∧i < l.length∧bad l i
      · rw [if_pos h3]
        exact spec_l0_bad l (by omega) (l.length - 1) 1 (by omega) h3
      · rw [if_neg h3]
        have hg:∀ i,1≤i → i < l.length → ¬ bad l i:=fun i q1 q2 q3=>h3 ⟨i,q1,q2,q3⟩
        have hP:=par_of l hg;refine spec_l0_good l (by omega) _ ?_ (l.length - 1) 1 (by omega) hg
        by_cases h4:dup l
        · rw [if_pos h4]
          obtain ⟨i,j,q1,q2,q3,q4⟩:=h4;exact spec_l1_bad l (by omega) (l.length - 1) 1 (by omega) (by omega) ⟨i,j,q1,q2,by omega,q3,q4⟩
        · rw [if_neg h4]
          refine spec_l1_good l (by omega) _ ?_ (l.length - 1) 1 (by omega) (by omega) (fun i j q1 q2 q3 q4 q5=>h4 ⟨i,j,q1,q2,q4,q5⟩);refine spec_l3 l (by omega) hP _ (l.length - 1) 1 (by omega) (by omega) (fun h=>if_pos h) (fun h=>if_neg (fun ⟨i,q1,q2,q3⟩=>h i q1 q2 q3))
    · rw [if_pos h2]
      refine Co.step_const fun k=>?_
      simp only [sFO.j1];rw [decide_eq_false h2];rfl
theorem impl_code (l:List S75):Co (fun k=>iFO.f k l) (code l):=by
  unfold iFO.f code
  by_cases h1:l.length=0∨200 < l.length
  · rw [if_pos h1]
    by_cases hz:(l.length:Int) < 1
    · simp only [if_pos hz]
      exact Co.step_const fun k=>by simp only [iFO.j0];rfl
    · simp only [if_neg hz]
      exact Co.step_const fun k=>by simp only [iFO.j0];rw [if_pos (decide_eq_true (by omega))]
  · rw [if_neg h1]
    simp only [if_neg (show ¬ (l.length:Int) < 1 by omega)];have hj0:∀ k,iFO.j0 (k+1) (decide ((l.length:Int) > 200)) l=if (el l 0).f0 = -1∧kb l 0=[]∧(el l 0).f2=0 then iFO.l0 k (l.drop 1) ((l.drop 1).length:Int) ((0:Nat):Int) l else some 2:=by
      intro k
      simp only [iFO.j0];rw [if_neg (by simp;omega),if_pos (by omega),rd_zero,toList_kb];unfold kb
      generalize el l 0=e
      by_cases a0:e.f0 = -1 <;> by_cases a1:e.f1.data.toList=[] <;> by_cases a2:e.f2=0 <;> simp [a0,a1,a2]
      · intro hh;omega
      · intro hh;exact absurd (by simp [hh]) a1
    by_cases h2:(el l 0).f0 = -1∧kb l 0=[]∧(el l 0).f2=0
    · rw [if_neg (by simpa using h2)]
      refine Co.step (g:=fun k=>iFO.l0 k (l.drop 1) ((l.drop 1).length:Int) ((0:Nat):Int) l) (fun k=>by rw [hj0,if_pos h2]) ?_
      by_cases h3:∃ i,1≤i∧i < l.length∧bad l i
      · rw [if_pos h3]
        exact impl_l0_bad l (by omega) (l.length - 1) 0 (by omega) h3
      · rw [if_neg h3]
        have hg:∀ i,1≤i → i < l.length → ¬ bad l i:=fun i q1 q2 q3=>h3 ⟨i,q1,q2,q3⟩
        have hP:=par_of l hg;have hC:=cnt_of l (by omega) hP h2.2.2 hg;have hdup:=dupB_iff l hP h2.1;refine impl_l0_good l (by omega) _ (fit_kids l (by omega) h2.1 h2.2.1 hg) (fun h=>if_pos (hdup.1 h)) (fun h=>?_) (l.length - 1) 0 (by omega) hg;rw [if_neg (fun q=>by rw [hdup.2 q] at h;cases h)];refine impl_l1 l (by omega) hP hC _ l.length 0 (by omega) (fun ⟨j,q1,q2,q3⟩=>if_pos ?_) (fun hn=>if_neg ?_)
        · apply Classical.byContradiction
          intro hno
          exact q3 (nodup_of_norep l hP (fun i p1 p2 p3=>hno ⟨i,p1,p2,p3⟩) j q2)
        · rintro ⟨i,p1,p2,p3⟩
          exact ((nodup_K l hP i (by omega) p2).1 (hn i (by omega) p2)).1 p3
    · rw [if_pos h2]
      exact Co.step_const fun k=>by rw [hj0,if_neg h2]
end Go.Proofs.Ytclploookcjcbaa.PFr
