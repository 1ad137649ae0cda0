/- Proved: a good forest with a shape grown is good, and its shapes' fields; the place of a field in a good forest's shape. Conditions: those each theorem states. -/
import Derived.Test.YtclploookcjcbaaFrGrow
import Derived.Test.YtclploookcjcbaaPFrF
set_option linter.unusedVariables false
namespace Go.Proofs.Ytclploookcjcbaa.PFr
open Go Go.RowKit Go.Proofs.YtclploookcjcbaaW.PrintWords Go.Proofs.Ytclploookcjcbaa.Ev
theorem el_app (l:List S75) (x:S75) (i:Nat) (h:i < l.length):el (l++[x]) i=el l i:=by
  unfold el;rw [List.getD_eq_getElem?_getD,List.getD_eq_getElem?_getD,List.getElem?_append_left h]
theorem el_last (l:List S75) (x:S75):el (l++[x]) l.length=x:=by
  unfold el;rw [List.getD_eq_getElem?_getD,List.getElem?_append_right (Nat.le_refl _)]
  simp
theorem kb_app (l:List S75) (x:S75) (i:Nat) (h:i < l.length):kb (l++[x]) i=kb l i:=by unfold kb;rw [el_app l x i h]
theorem ks_app (l:List S75) (x:S75) (hP:Par l):∀ f p,p < l.length → ks (l++[x]) f p=ks l f p
  |0,p,_=>rfl
  |f+1,p,hp=>by
    simp only [ks]
    by_cases h0:p=0
    · rw [if_pos h0,if_pos h0]
    · have hh:=hP p (by omega) hp
      rw [if_neg h0,if_neg h0,el_app l x p hp,ks_app l x hP f _ (by omega)]
theorem K_app (l:List S75) (x:S75) (hP:Par l) (p:Nat) (hp:p < l.length):K (l++[x]) p=K l p:=ks_app l x hP p p hp
theorem Kb_app (l:List S75) (x:S75) (hP:Par l) (p:Nat) (hp:p < l.length):Kb (l++[x]) p=Kb l p:=by unfold Kb;rw [K_app l x hP p hp]
theorem grown_good (l:List S75) (g:Good l) (n:Nat) (hn:n < l.length) (s:ByteArray) (hs:s.size≤4000) (hk:s.data.toList ∉ Kb l n) (h12:(el l n).f2 < 12) (h200:l.length < 200) (hno:∀ j,j < l.length → ¬ Kid l n s j) :
    Good (l++[(⟨(n:Int),s,wrap64 ((el l n).f2+1)⟩:S75)]):=by
  have hP:=g.par;have hc:=g.cnt n hn;have hpos:=g.pos
  generalize hx:(⟨(n:Int),s,wrap64 ((el l n).f2+1)⟩:S75)=x
  have h0:x.f0=(n:Int):=by rw [← hx]
  have h1:x.f1=s:=by rw [← hx]
  have h2:x.f2=wrap64 ((el l n).f2+1):=by rw [← hx]
  have hlen:(l++[x]).length=l.length+1:=by simp
  refine ⟨by omega,by omega,by rw [el_app l x 0 (by omega)];exact g.r0,by rw [kb_app l x 0 (by omega)];exact g.r1,by rw [el_app l x 0 (by omega)];exact g.r2,?_,?_,?_⟩
  · intro i hi hi2
    by_cases hil:i < l.length
    · have hb:=g.ok i hi hil
      have hh:=hP i hi hil;unfold bad at hb ⊢;rw [el_app l x i hil,el_app l x _ (by omega)];exact hb
    · have hie:i=l.length:=by omega
      subst hie;unfold bad;rw [el_last l x,h0,h1,h2,Int.toNat_natCast,el_app l x n hn,IntWalk.wrap64_in _ ⟨by omega,by omega⟩]
      omega
  · rintro ⟨i,j,hi,hij,hj,h3,h4⟩
    by_cases hjl:j < l.length
    · rw [el_app l x i (by omega),el_app l x j hjl] at h3
      rw [kb_app l x i (by omega),kb_app l x j hjl] at h4;exact g.nodup ⟨i,j,hi,hij,hjl,h3,h4⟩
    · have hje:j=l.length:=by omega
      subst hje;rw [el_app l x i hij,el_last l x,h0] at h3;have h5:kb (l++[x]) l.length=s.data.toList:=by unfold kb;rw [el_last l x,h1]
      rw [kb_app l x i hij,h5] at h4;refine hno i hij ⟨hi,h3,?_⟩;rw [toList_kb,toList_kb];exact h4
  · intro i hi hi2
    unfold rep
    by_cases hil:i < l.length
    · have hh:=hP i hi hil
      rw [kb_app l x i hil,el_app l x i hil,Kb_app l x hP _ (by omega)];exact g.norep i hi hil
    · have hie:i=l.length:=by omega
      subst hie;have h5:kb (l++[x]) l.length=s.data.toList:=by unfold kb;rw [el_last l x,h1]
      rw [h5,el_last l x,h0,Int.toNat_natCast,Kb_app l x hP n hn];exact hk
/-- The shape that growing answers: in a good forest, shape j hangs on shape n by the name s, and nothing else has changed. -/
theorem grew_good (l:List S75) (g:Good l) (n:Nat) (hn:n < l.length) (s:ByteArray) (hs:s.size≤4000) (hk:s.data.toList ∉ Kb l n) (r:List S75 × Int) (h:Grew l n s 0 r) :
    Good r.1∧n < r.1.length∧(∀ p,p < l.length → K r.1 p=K l p)∧(¬ r.2 < 0 → ∃ j:Nat,r.2=(j:Int)∧j < r.1.length∧Kid r.1 n s j):=by
  rcases h with ⟨j,_,hj,hkid,rfl⟩|⟨hno,rfl|⟨h12,h200,rfl⟩⟩
  · exact ⟨g,hn,fun _ _=>rfl,fun _=>⟨j,rfl,hj,hkid⟩⟩
  · exact ⟨g,hn,fun _ _=>rfl,fun h=>absurd (by show (-1:Int) < 0;omega) h⟩
  · have hg:=grown_good l g n hn s hs hk h12 h200 (fun j hj=>hno j (Nat.zero_le _) hj)
    refine ⟨hg,by simp;omega,fun p hp=>K_app l _ g.par p hp,fun _=>⟨l.length,rfl,by simp,?_⟩⟩;refine ⟨g.pos,?_,?_⟩
    · rw [el_last]
    · rw [el_last]
/-- One shape hangs on shape n by the name s. -/
theorem kid_one (l:List S75) (g:Good l) (n:Nat) (s:ByteArray) (i j:Nat) (hi:i < l.length) (hj:j < l.length) (h1:Kid l n s i) (h2:Kid l n s j):i=j:=by
  have key:∀ i j,i < j → j < l.length → Kid l n s i → Kid l n s j → False:=by
    intro i j hij hj h1 h2
    refine g.nodup ⟨i,j,h1.1,hij,hj,?_,?_⟩
    · rw [h1.2.1,h2.2.1]
    · have e:=h1.2.2.trans h2.2.2.symm
      rw [toList_kb,toList_kb] at e;exact e
  rcases Nat.lt_trichotomy i j with h|h|h
  · exact (key i j h hj h1 h2).elim
  · exact h
  · exact (key j i h hi h2 h1).elim
/-- The place of a field in a shape of a good forest. -/
theorem fieldAt_val (l:List S75) (g:Good l) (p:Nat) (hp:p < l.length) (m:Nat) (hm:m < (K l p).length) (s:ByteArray) (hs:((K l p).reverse.getD m ByteArray.empty).toList=s.toList):Co (fun k=>impl_FieldAt.f k l p s) (m:Int):=by
  have hc:code l=0:=(code_zero l).2 g;have hlen:(K l p).reverse.length < 4611686018427387904:=by
    have:=g.count_le p hp
    rw [List.length_reverse];omega
  have hf:Co (fun k=>impl_Fields.f k l p) (K l p).reverse:=by
    have hhas:=has_co l p;rw [decide_eq_true (⟨hc,by omega,by omega⟩:code l=0∧0≤(p:Int)∧(p:Int) < (l.length:Int))] at hhas;exact Co.bind hhas (Co.of_eq (fun k=>if_pos rfl) (Co.bind (fields_ev l g.le g.par p hp) (Co.const _)))
  obtain ⟨r,_,h2,h3⟩:=at_val (K l p).reverse s hlen _ 0 (Nat.zero_add _);have hr:r=(m:Int):=by
    have hnd:=nodup_of_norep l g.par g.norep p hp;have hrev:((K l p).reverse.map fun b=>b.data.toList).Nodup:=by
      rw [List.map_reverse];exact List.pairwise_reverse.2 (hnd.imp (fun h e=>h e.symm))
    rcases h3 with ⟨q,e,hq,hb⟩|⟨_,hq⟩
    · have hbm:((K l p).reverse.getD q ByteArray.empty).data.toList=((K l p).reverse.getD m ByteArray.empty).data.toList:=by
        rw [← toList_kb,← toList_kb,hb,hs]
      have hm':m < (K l p).reverse.length:=by rw [List.length_reverse];exact hm
      have key:∀ a b,a < b → b < (K l p).reverse.length → ((K l p).reverse.getD a ByteArray.empty).data.toList=((K l p).reverse.getD b ByteArray.empty).data.toList → False:=by
        intro a b hab hb' e
        have:=List.pairwise_iff_getElem.1 hrev a b (by rw [List.length_map];omega) (by rw [List.length_map];omega) hab
        apply this;rw [List.getElem_map,List.getElem_map];rw [List.getD_eq_getElem?_getD,List.getD_eq_getElem?_getD,List.getElem?_eq_getElem (by omega),List.getElem?_eq_getElem hb',Option.getD_some,Option.getD_some] at e;exact e
      rcases Nat.lt_trichotomy q m with h|h|h
      · exact (key q m h hm' hbm).elim
      · rw [e,h]
      · exact (key m q h hq hbm.symm).elim
    · exact absurd hs (hq m (Nat.zero_le _) (by rw [List.length_reverse];exact hm))
  rw [hr] at h2;exact Co.bind hf (Co.bind h2 (Co.const _))
theorem fields_val (l:List S75) (g:Good l) (p:Nat) (hp:p < l.length):Co (fun k=>impl_Fields.f k l p) (K l p).reverse:=by
  have hc:code l=0:=(code_zero l).2 g;have hhas:=has_co l p;rw [decide_eq_true (⟨hc,by omega,by omega⟩:code l=0∧0≤(p:Int)∧(p:Int) < (l.length:Int))] at hhas;exact Co.bind hhas (Co.of_eq (fun k=>if_pos rfl) (Co.bind (fields_ev l g.le g.par p hp) (Co.const _)))
end Go.Proofs.Ytclploookcjcbaa.PFr
