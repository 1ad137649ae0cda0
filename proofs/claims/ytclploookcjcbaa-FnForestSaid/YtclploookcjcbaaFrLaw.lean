/- Proved: the law FnForest, as printed, comes to true at every row of bytes. -/
import Derived.Test.YtclploookcjcbaaFrDraw
import Derived.Test.YtclploookcjcbaaPFrL
set_option linter.unusedVariables false
namespace Go.Proofs.Ytclploookcjcbaa.PFr
open Go Go.RowKit Go.Proofs.YtclploookcjcbaaW.PrintWords Go.Proofs.Ytclploookcjcbaa.Ev
theorem wForest_self (l:List S75) (hl:l.length < 4611686018427387904):∀ d j,j+d=l.length → Co (fun k=>laws_wForest.l0 k (l.length:Int) j l l) true
  |0,j,hd=>Co.step_const fun k=>by simp only [laws_wForest.l0];rw [if_neg (by omega)]
  |d+1,j,hd=>by
    refine Co.step (fun k=>?_) (wForest_self l hl d (j+1) (by omega));simp only [laws_wForest.l0];rw [if_pos (by omega),if_pos (by omega),if_pos (by omega),if_pos (by omega),if_neg (by simp),w1 j (by omega)]
theorem wForest_co (l:List S75) (hl:l.length < 4611686018427387904):Co (fun k=>laws_wForest.f k l l) true:=by
  refine Co.of_eq (fun k=>?_) (wForest_self l hl l.length 0 (Nat.zero_add _));unfold laws_wForest.f;rw [if_pos rfl];rfl
/-- The fields of the old shape, and at the new one, one after the other. -/
theorem law_l0 (l':List S75) (g':Good l') (n j:Nat) (hn:n < l'.length) (hj:j < l'.length) (s:ByteArray) (hs:s.size≤4000) (hk:s.data.toList ∉ Kb l' n) (hkid:Kid l' n s j):∀ d i,i+d=(K l' n).length → Co (fun k=>lFF.l0 k n s (K l' n).reverse (K l' j).reverse ((K l' n).length:Int) i l' j) true
  |0,i,hd=>by
    obtain ⟨r,r1,r2⟩:=grow_good l' g' n hn s hs hk;have hr:r=(l',(j:Int)):=by
      rcases r2 with ⟨m,_,hm,hkm,e⟩|⟨hno,_⟩
      · rw [e,kid_one l' g' n s m j hm hj hkm hkid]
      · exact absurd hkid (hno j (Nat.zero_le _) hj)
    rw [hr] at r1;refine Co.step (g:=fun k=>(impl_Grow.f k l' n s).bind fun bt239=>(some (bt239.2==(j:Int)))) (fun k=>?_) (Co.bind r1 (Co.of_eq (fun k=>by simp) (Co.const true)));simp only [lFF.l0];rw [if_neg (by omega)]
  |d+1,i,hd=>by
    have hP:=g'.par;have h12:=g'.count_le n hn;have hKj:K l' j=(el l' j).f1 :: K l' n:=by
      rw [K_pos l' hP j hkid.1 hj,hkid.2.1,Int.toNat_natCast]
    have hrev:(K l' j).reverse=(K l' n).reverse++[(el l' j).f1]:=by rw [hKj,List.reverse_cons]
    have hlen:(K l' n).reverse.length=(K l' n).length:=List.length_reverse
    have hlen':(K l' j).reverse.length=(K l' n).length+1:=by rw [List.length_reverse,hKj,List.length_cons]
    have hi:i < (K l' n).reverse.length:=by omega
    have hsame:(K l' j).reverse.getD i ByteArray.empty=(K l' n).reverse.getD i ByteArray.empty:=by
      rw [hrev,List.getD_eq_getElem?_getD,List.getElem?_append_left hi,← List.getD_eq_getElem?_getD]
    have hat:=fieldAt_val l' g' j hj i (by rw [hKj,List.length_cons];omega) ((K l' n).reverse.getD i ByteArray.empty) (by rw [hsame]);refine Co.step (g:=fun k=>(impl_FieldAt.f k l' j ((K l' n).reverse.getD i ByteArray.empty)).bind fun t238=>(if t238=(i:Int) then (lFF.l0 k n s (K l' n).reverse (K l' j).reverse ((K l' n).length:Int) (wrap64 ((i:Int)+1)) l' j) else (none))) (fun k=>?_) (Co.bind hat (Co.of_eq (fun k=>if_pos rfl) ?_))
    · simp only [lFF.l0]
      rw [if_pos (by omega),if_pos (by omega),if_pos (by omega),if_pos (by omega),rdOf_nat,rdOf_nat,hsame,if_pos rfl]
    · rw [w1 i (by omega)]
      exact law_l0 l' g' n j hn hj s hs hk hkid d (i+1) (by omega)
theorem law_j0 (l:List S75) (n:Nat) (hn:n < l.length) (g:Good l) (s:ByteArray) (hs:s.size≤4000) (hk:s.data.toList ∉ Kb l n) (r:List S75 × Int) (h:Grew l n s 0 r):Co (fun k=>lFF.j0 k n s false l r.1 r.2) true:=by
  obtain ⟨g',hn',hK,hnew⟩:=grew_good l g n hn s hs hk r h
  by_cases hneg:r.2 < 0
  · refine Co.step_const fun k=>?_
    simp only [lFF.j0];rw [if_neg (by simp),if_pos hneg]
  · obtain ⟨j,ej,hj,hkid⟩:=hnew hneg
    have hP:=g'.par;have h12:=g'.count_le n hn';have hKn:=hK n hn;have hKj:K r.1 j=(el r.1 j).f1 :: K l n:=by
      rw [K_pos r.1 hP j hkid.1 hj,hkid.2.1,Int.toNat_natCast,hKn]
    have hrev:(K r.1 j).reverse=(K l n).reverse++[(el r.1 j).f1]:=by rw [hKj,List.reverse_cons]
    have hk':s.data.toList ∉ Kb r.1 n:=by unfold Kb;rw [hKn];exact hk
    have f1:=fields_val l g n hn;have f2:=fields_val r.1 g' j hj;have hlen:((K l n).reverse.length:Int)=((K l n).length:Int):=by rw [List.length_reverse]
    have hlen':((K r.1 j).reverse.length:Int)=((K l n).length:Int)+1:=by rw [List.length_reverse,hKj,List.length_cons];omega
    rw [hKn] at h12;have hlast:((K r.1 j).reverse.getD (K l n).length ByteArray.empty)=(el r.1 j).f1:=by
      rw [hrev,List.getD_eq_getElem?_getD,List.getElem?_append_right (by rw [List.length_reverse];exact Nat.le_refl _),List.length_reverse]
      simp
    have hat:=fieldAt_val r.1 g' j hj (K l n).length (by rw [hKj,List.length_cons];omega) s (by rw [hlast];exact hkid.2.2);have hok:Co (fun k=>iFO.f k r.1) 0:=by have:=impl_code r.1;rw [(code_zero r.1).2 g'] at this;exact this
    have hl0:=law_l0 r.1 g' n j hn' hj s hs hk' hkid (K r.1 n).length 0 (Nat.zero_add _);rw [hKn] at hl0;rw [ej];refine Co.step (g:=fun k=>(impl_Fields.f k l n).bind fun t226=>((impl_Fields.f k r.1 (j:Int)).bind fun t229=>(if (t229.length:Int)=(wrap64 ((t226.length:Int)+1)) then (if 0≤(t226.length:Int) then (if (t226.length:Int) < (t229.length:Int) then (if (rdOf ByteArray.empty t229 (t226.length:Int)).toList=s.toList then ((impl_FieldAt.f k r.1 (j:Int) s).bind fun t233=>(if t233=(t226.length:Int) then ((iFO.f k r.1).bind fun t234=>(lFF.j1 k n s t226 t229 (t234 != 0) r.1 (j:Int))) else (lFF.j1 k n s t226 t229 true r.1 (j:Int)))) else (lFF.j1 k n s t226 t229 true r.1 (j:Int))) else (none)) else (none)) else (lFF.j1 k n s t226 t229 true r.1 (j:Int))))) (fun k=>?_) ?_
    · simp only [lFF.j0]
      rw [if_neg (by simp),if_neg (by omega)]
    · refine Co.bind f1 (Co.bind f2 ?_)
      refine Co.of_eq (fun k=>if_pos (by rw [hlen',hlen,IntWalk.wrap64_in _ ⟨by omega,by omega⟩])) (Co.of_eq (fun k=>if_pos (by omega)) (Co.of_eq (fun k=>if_pos (by omega)) (Co.of_eq (fun k=>if_pos (by rw [hlen,rdOf_nat,hlast];exact hkid.2.2)) ?_)));refine Co.bind hat (Co.of_eq (fun k=>if_pos hlen.symm) (Co.bind hok ?_));refine Co.step (g:=fun k=>lFF.l0 k n s (K l n).reverse (K r.1 j).reverse ((K l n).reverse.length:Int) 0 r.1 (j:Int)) (fun k=>?_) ?_
      · simp only [lFF.j1]
        rw [if_neg (by simp)]
      · rw [hlen]
        exact hl0
theorem law_Forest:lFF.Pure:=by
  intro c hm h1 hw
  have hc:Byt c:=fun x hx=>by
    have h:=hw x hx;simp only [Lit.wf,Bool.and_eq_true,decide_eq_true_eq] at h;have a:IntKind.u8.min=0:=rfl;have b:IntKind.u8.max=255:=rfl
    omega
  refine Co.ex (c:=true) ?_
  by_cases hz:(c.length:Int) > 1048576
  · exact Co.of_eq (fun k=>if_pos hz) (Co.const _)
  · obtain ⟨l,a,s,e⟩:=draw_ok c hc
    obtain ⟨r,r1,r2,r3⟩:=grow_same l a s;have hlen:r.1.length < 4611686018427387904:=by
      rcases r3 with rfl|⟨n,_,hn,g,hs,hk,h⟩
      · simp
      · have:=(grew_good l g n hn s hs hk r h).1.le
        omega
    refine Co.of_eq (fun k=>if_neg hz) (Co.bind e (Co.bind r2 (Co.bind r1 (Co.bind (impl_code l) (Co.bind (spec_code l) ?_)))));refine Co.of_eq (fun k=>if_pos rfl) (Co.of_eq (fun k=>if_pos rfl) (Co.bind (wForest_co r.1 hlen) ?_))
    rcases r3 with rfl|⟨n,rfl,hn,g,hs,hk,h⟩
    · refine Co.step_const fun k=>?_
      simp only [lFF.j0];rfl
    · exact law_j0 l n hn g s hs hk r h
end Go.Proofs.Ytclploookcjcbaa.PFr
