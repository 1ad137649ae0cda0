/- Proved: the program's Grow and the reference's come to one answer, at every forest, shape and name, and what it is: a grown good forest is good. No condition beyond those each theorem states. -/
import Derived.Test.YtclploookcjcbaaPFrG
import Derived.Test.YtclploookcjcbaaPFrS
import Derived.Test.YtclploookcjcbaaFrFor
set_option linter.unusedVariables false
namespace Go.Proofs.Ytclploookcjcbaa.PFr
open Go Go.RowKit Go.Proofs.YtclploookcjcbaaW.PrintWords Go.Proofs.Ytclploookcjcbaa.Ev
theorem Good.par {l:List S75} (g:Good l):Par l:=par_of l g.ok
theorem Good.cnt {l:List S75} (g:Good l):Cnt l:=cnt_of l g.le g.par g.r2 g.ok
theorem Good.count_le {l:List S75} (g:Good l) (i:Nat) (hi:i < l.length):(K l i).length≤12:=by
  by_cases h:i=0
  · subst h;simp [K_zero]
  · have hb:=g.ok i (by omega) hi
    unfold bad at hb;simp only [not_or] at hb
    have:=g.cnt i hi
    omega
theorem set_drop (x:List ByteArray) (n:Nat) (b:ByteArray) (h:n < x.length):(x.set n b).drop n=b :: x.drop (n+1):=by
  rw [List.drop_eq_getElem_cons (by rw [List.length_set];exact h),List.getElem_set_self,List.drop_set_of_lt (by omega)]
theorem l2fields_l0 (l:List S75) (g:Good l):∀ p,p < l.length → ∀ x:List ByteArray,(K l p).length≤x.length → Co (fun k=>spec_l2fields.l0 k ((K l p).length:Int) x p l) ((K l p).reverse++x.drop (K l p).length):=by
  intro p
  induction p using Nat.strongRecOn with
  |_ p ih=>
    intro hp x hx
    have hP:=g.par;have hle:=g.le
    by_cases h0:p=0
    · subst h0
      rw [K_zero];refine Co.step_const fun k=>?_
      simp only [spec_l2fields.l0];rw [if_neg (by omega)];rfl
    · have hh:=hP p (by omega) hp
      have hK:=K_pos l hP p (by omega) hp;have hc:=g.count_le p hp;rw [hK] at hx hc ⊢;rw [List.length_cons] at hx hc;have hw:wrap64 ((((el l p).f1 :: K l (el l p).f0.toNat).length:Int) - 1)=((K l (el l p).f0.toNat).length:Int):=by
        rw [List.length_cons,IntWalk.wrap64_in _ ⟨by omega,by omega⟩]
        omega
      have hi:=ih (el l p).f0.toNat (by omega) (by omega) (x.set (K l (el l p).f0.toNat).length (el l p).f1) (by rw [List.length_set];omega);rw [set_drop _ _ _ (by omega)] at hi;rw [List.reverse_cons,List.append_assoc,List.length_cons];refine Co.step (fun k=>?_) hi;rw [List.length_cons] at hw;simp only [spec_l2fields.l0];rw [if_pos (by omega),if_pos (by omega),if_pos (by omega),hw,if_pos (by omega),if_pos (by omega),rd_nat,Int.toNat_of_nonneg hh.1,Int.toNat_natCast]
theorem l2fields_co (l:List S75) (g:Good l) (p:Nat) (hp:p < l.length):Co (fun k=>spec_l2fields.f k l p) (K l p).reverse:=by
  have hc:=g.cnt p hp;have hle:=g.count_le p hp;have h:=l2fields_l0 l g p hp (List.replicate (K l p).length (⟨#[]⟩:ByteArray)) (by rw [List.length_replicate];exact Nat.le_refl _);rw [List.drop_of_length_le (by rw [List.length_replicate];exact Nat.le_refl _),List.append_nil] at h;refine Co.of_eq (fun k=>?_) h;simp only [spec_l2fields.f];rw [if_pos (by omega),if_pos (by omega),rd_nat,hc,if_pos (by omega),if_pos (by omega),Int.toNat_natCast]
theorem has_co (l:List S75) (a:Int):Co (fun k=>impl_Forest_has.f k l a) (decide (code l=0∧0≤a∧a < (l.length:Int))):=by
  refine Co.bind (g:=fun _ t=>if t=0 then (if a≥0 then (some (decide (a < (l.length:Int)))) else (some false)) else (some false)) (impl_code l) (Co.of_eq (g:=fun _=>some _) (fun k=>?_) (Co.const _))
  by_cases h:code l=0 <;> by_cases h1:a≥0 <;> by_cases h2:a < (l.length:Int) <;> simp [h,h1,h2] <;> omega
theorem l2shape_eq (l:List S75) (a:Int):spec_l2shape.f l a=some (decide (0≤a∧a < (l.length:Int))):=by
  unfold spec_l2shape.f
  by_cases h1:a≥0 <;> by_cases h2:a < (l.length:Int) <;> simp [h1,h2] <;> omega
/-- The place of a name in a list, by both programs' loops. -/
theorem at_val (x:List ByteArray) (s:ByteArray) (hx:x.length < 4611686018427387904):∀ d j,j+d=x.length → ∃ r:Int,Co (fun k=>spec_l2at.l0 k s x (x.length:Int) j) r∧Co (fun k=>sIdx.l0 k x s (x.length:Int) j) r∧
    ((∃ p:Nat,r=(p:Int)∧p < x.length∧(x.getD p ByteArray.empty).toList=s.toList)∨(r = -1∧∀ m,j≤m → m < x.length → (x.getD m ByteArray.empty).toList≠s.toList))
  |0,j,hd=>⟨-1,Co.step_const fun k=>by simp only [spec_l2at.l0];rw [if_neg (by omega)],Co.step_const fun k=>by simp only [sIdx.l0];rw [if_neg (by omega)],Or.inr ⟨rfl,fun m h1 h2=>by omega⟩⟩
  |d+1,j,hd=>by
    by_cases h:(rdOf ByteArray.empty x (j:Int)).toList=s.toList
    · refine ⟨(j:Int),Co.step_const fun k=>?_,Co.step_const fun k=>?_,Or.inl ⟨j,rfl,by omega,by rw [← rdOf_nat];exact h⟩⟩
      · simp only [spec_l2at.l0]
        rw [if_pos (by omega),if_pos (by omega),if_pos (by omega),if_pos h]
      · simp only [sIdx.l0]
        rw [if_pos (by omega),if_pos (by omega),if_pos (by omega),if_pos h.symm]
    · obtain ⟨r,h1,h2,h3⟩:=at_val x s hx d (j+1) (by omega)
      refine ⟨r,Co.step (fun k=>?_) h1,Co.step (fun k=>?_) h2,?_⟩
      · simp only [spec_l2at.l0]
        rw [if_pos (by omega),if_pos (by omega),if_pos (by omega),if_neg h,w1 j (by omega)]
      · simp only [sIdx.l0]
        rw [if_pos (by omega),if_pos (by omega),if_pos (by omega),if_neg (fun q=>h q.symm),w1 j (by omega)]
      · rcases h3 with ⟨p,e,hp,hq⟩|⟨e,hq⟩
        · exact Or.inl ⟨p,e,hp,hq⟩
        · refine Or.inr ⟨e,fun m hm hm2=>?_⟩
          by_cases he:m=j
          · subst he
            rw [← rdOf_nat];exact h
          · exact hq m (by omega) hm2
theorem getD_mem (x:List ByteArray) (m:Nat) (hm:m < x.length):x.getD m ByteArray.empty ∈ x:=by
  rw [List.getD_eq_getElem?_getD,List.getElem?_eq_getElem hm,Option.getD_some];exact List.getElem_mem hm
theorem mem_getD (x:List ByteArray) (b:ByteArray) (hb:b ∈ x):∃ m,m < x.length∧x.getD m ByteArray.empty=b:=by
  obtain ⟨m,hm,e⟩:=List.getElem_of_mem hb;exact ⟨m,hm,by rw [List.getD_eq_getElem?_getD,List.getElem?_eq_getElem hm,Option.getD_some,e]⟩
theorem notin_path (l:List S75) (n:Nat) (s:ByteArray) (h:∀ m,m < (K l n).reverse.length → ((K l n).reverse.getD m ByteArray.empty).toList≠s.toList):s.data.toList ∉ Kb l n:=by
  intro hm
  unfold Kb at hm;obtain ⟨b,hb,e⟩:=List.mem_map.1 hm;obtain ⟨m,h1,h2⟩:=mem_getD (K l n).reverse b (List.mem_reverse.2 hb);refine h m h1 ?_;rw [h2,toList_kb,toList_kb];exact e
/-- Copying shape by shape gives the row. -/
theorem l2copy_l0 (l:List S75) (hl:l.length≤200):∀ d j,j+d=l.length → Co (fun k=>spec_l2copy.l0 k l (l.length:Int) j (l.take j)) l
  |0,j,hd=>Co.step_const fun k=>by
      simp only [spec_l2copy.l0];rw [if_neg (by omega),List.take_of_length_le (by omega)]
  |d+1,j,hd=>by
    refine Co.step (fun k=>?_) (l2copy_l0 l hl d (j+1) (by omega));simp only [spec_l2copy.l0];rw [if_pos (by omega),if_pos (by omega),if_pos (by omega),if_pos (by rw [List.length_take];omega),w1 j (by omega),rd_nat]
    congr 1
    rw [List.take_succ_eq_append_getElem (by omega:j < l.length)]
    congr 1
    unfold el;rw [List.getD_eq_getElem?_getD,List.getElem?_eq_getElem (by omega),Option.getD_some]
theorem l2copy_co (l:List S75) (hl:l.length≤200):Co (fun k=>spec_l2copy.f k l) l:=l2copy_l0 l hl l.length 0 (by omega)
/-- l2grow's loop, at the row that it was given, and what follows it. -/
def l2tail (a1:Int) (a2:ByteArray) (x:List (S75)):Option ((List (S75)) × Int):=if 0≤a1 then (if a1 < (x.length:Int) then (if ((rT x a1).f2)=12 then (some (x,-1)) else (if (x.length:Int)=200 then (some (x,-1)) else (if x.length < 4398046511104 then (some (x++[(⟨a1,a2,wrap64 (((rT x a1).f2)+1)⟩:S75)],wrap64 (((x++[(⟨a1,a2,wrap64 (((rT x a1).f2)+1)⟩:S75)]).length:Int) - 1))) else (none)))) else (none)) else (none)
def l2g (k:Nat) (a1:Int) (a2:ByteArray) (x:List (S75)) (i:Int):Option ((List (S75)) × Int):=spec_l2grow.l0 k a1 a2 0 x (x.length:Int) i x
theorem l2g_step (k:Nat) (a1:Int) (a2:ByteArray) (x:List (S75)) (i:Int):l2g (k+1) a1 a2 x i=if i < (x.length:Int) then (if 0≤i then (if i < (x.length:Int) then (if i > 0 then (if ((rT x i).f0)=a1 then (if ((rT x i).f1).toList=a2.toList then (some (x,i)) else (l2g k a1 a2 x (wrap64 (i+1)))) else (l2g k a1 a2 x (wrap64 (i+1)))) else (l2g k a1 a2 x (wrap64 (i+1)))) else (none)) else (none)) else (l2tail a1 a2 x):=by
  unfold l2g l2tail;rfl
/-- Shape j hangs on shape a by the name s. -/
def Kid (l:List S75) (a:Nat) (s:ByteArray) (j:Nat):Prop:=0 < j∧(el l j).f0=(a:Int)∧(el l j).f1.toList=s.toList
/-- What growing shape a by the name s gives, the shapes from i on looked at. -/
def Grew (l:List S75) (a:Nat) (s:ByteArray) (i:Nat) (r:List S75 × Int):Prop:=
  (∃ j,i≤j∧j < l.length∧Kid l a s j∧r=(l,(j:Int)))∨
  ((∀ j,i≤j → j < l.length → ¬ Kid l a s j)∧(r=(l,-1)∨((el l a).f2 < 12∧l.length < 200∧r=(l++[(⟨(a:Int),s,wrap64 ((el l a).f2+1)⟩:S75)],(l.length:Int)))))
theorem l2tail_val (l:List S75) (g:Good l) (a:Nat) (ha:a < l.length) (s:ByteArray):∃ r,l2tail (a:Int) s l=some r∧(if 0≤(a:Int) then (if (a:Int) < (l.length:Int) then (if ((rT l a).f2) < 12 then (if (l.length:Int) < 200 then (if l.length < 4398046511104 then (some ((l++[(⟨a,s,wrap64 (((rT l a).f2)+1)⟩:S75)]),(l.length:Int))) else (none)) else (some (l,(-1)))) else (some (l,(-1)))) else (none)) else (none))=some r∧(r=(l,-1)∨((el l a).f2 < 12∧l.length < 200∧r=(l++[(⟨(a:Int),s,wrap64 ((el l a).f2+1)⟩:S75)],(l.length:Int)))):=by
  have hle:=g.le;have hc:=g.cnt a ha;have h12:=g.count_le a ha;unfold l2tail;rw [if_pos (by omega),if_pos (by omega),rd_nat]
  by_cases h1:(el l a).f2=12
  · exact ⟨(l,-1),by rw [if_pos h1],by rw [if_pos (by omega),if_pos (by omega),if_neg (by omega)],Or.inl rfl⟩
  · by_cases h2:(l.length:Int)=200
    · exact ⟨(l,-1),by rw [if_neg h1,if_pos h2],by rw [if_pos (by omega),if_pos (by omega),if_pos (by omega),if_neg (by omega)],Or.inl rfl⟩
    · refine ⟨(l++[(⟨(a:Int),s,wrap64 ((el l a).f2+1)⟩:S75)],(l.length:Int)),?_,by rw [if_pos (by omega),if_pos (by omega),if_pos (by omega),if_pos (by omega),if_pos (by omega)],Or.inr ⟨by omega,by omega,rfl⟩⟩
      rw [if_neg h1,if_neg h2,if_pos (by omega),List.length_append,List.length_singleton,IntWalk.wrap64_in (((l.length+1:Nat):Int) - 1) ⟨by omega,by omega⟩]
      congr 2
      omega
theorem grow_l0 (l:List S75) (g:Good l) (a:Nat) (ha:a < l.length) (s:ByteArray):∀ d j,j+d=l.length → ∃ r,Co (fun k=>l2g k (a:Int) s l j) r∧Co (fun k=>impl_Grow.l0 k (a:Int) s l (l.length:Int) j l l (-1)) r∧Grew l a s j r
  |0,j,hd=>by
    have hle:=g.le;obtain ⟨r,h1,h2,h3⟩:=l2tail_val l g a ha s;refine ⟨r,Co.step_const fun k=>?_,Co.step_const fun k=>?_,Or.inr ⟨fun m h1 h2=>by omega,h3⟩⟩
    · rw [l2g_step]
      rw [if_neg (by omega)];exact h1
    · simp only [impl_Grow.l0]
      rw [if_neg (by omega)];exact h2
  |d+1,j,hd=>by
    have hle:=g.le
    by_cases h:Kid l a s j
    · refine ⟨(l,(j:Int)),Co.step_const fun k=>?_,Co.step_const fun k=>?_,Or.inl ⟨j,Nat.le_refl _,by omega,h,rfl⟩⟩
      · have h0:=h.1
        rw [l2g_step];rw [if_pos (by omega),if_pos (by omega),if_pos (by omega),if_pos (by omega),rd_nat,if_pos h.2.1,if_pos h.2.2]
      · have h0:=h.1
        simp only [impl_Grow.l0];rw [if_pos (by omega),if_pos (by omega),if_pos (by omega),if_pos (by omega),rd_nat,if_pos h.2.1,if_pos h.2.2]
    · obtain ⟨r,h1,h2,h3⟩:=grow_l0 l g a ha s d (j+1) (by omega)
      refine ⟨r,Co.step (fun k=>?_) h1,Co.step (fun k=>?_) h2,?_⟩
      · rw [l2g_step]
        rw [if_pos (by omega),if_pos (by omega),if_pos (by omega),rd_nat,w1 j (by omega)]
        by_cases q0:0 < j
        · rw [if_pos (by omega)]
          by_cases q1:(el l j).f0=(a:Int)
          · rw [if_pos q1,if_neg (fun q2=>h ⟨q0,q1,q2⟩)]
          · rw [if_neg q1]
        · rw [if_neg (by omega)]
      · simp only [impl_Grow.l0]
        rw [if_pos (by omega),if_pos (by omega),if_pos (by omega),rd_nat,w1 j (by omega)]
        by_cases q0:0 < j
        · rw [if_pos (by omega)]
          by_cases q1:(el l j).f0=(a:Int)
          · rw [if_pos q1,if_neg (fun q2=>h ⟨q0,q1,q2⟩)]
          · rw [if_neg q1]
        · rw [if_neg (by omega)]
      · rcases h3 with ⟨m,k1,k2,k3,k4⟩|⟨k1,k2⟩
        · exact Or.inl ⟨m,by omega,k2,k3,k4⟩
        · refine Or.inr ⟨fun m hm hm2=>?_,k2⟩
          by_cases he:m=j
          · subst he
            exact h
          · exact k1 m (by omega) hm2
/-- Growing: one answer, and what it is. -/
def Told (l:List S75) (a:Int) (s:ByteArray) (r:List S75 × Int):Prop:=
  r=([],-1)∨∃ n:Nat,a=(n:Int)∧n < l.length∧Good l∧s.size≤4000∧s.data.toList ∉ Kb l n∧Grew l n s 0 r
theorem grow_good (l:List S75) (g:Good l) (n:Nat) (hn:n < l.length) (s:ByteArray) (hz:s.size≤4000) (hk:s.data.toList ∉ Kb l n):∃ r,Co (fun k=>impl_Grow.f k l n s) r∧Grew l n s 0 r:=by
  have hc:code l=0:=(code_zero l).2 g;have h:code l=0∧0≤(n:Int)∧(n:Int) < (l.length:Int):=⟨hc,by omega,by omega⟩;have hle:=g.le;have hhas:=has_co l n;rw [decide_eq_true h] at hhas;have hlen:(K l n).reverse.length < 4611686018427387904:=by
    have:=g.count_le n hn
    rw [List.length_reverse];omega
  obtain ⟨p,p1,p2,p3⟩:=at_val (K l n).reverse s hlen _ 0 (Nat.zero_add _);have hp:¬ p≥0:=by
    rcases p3 with ⟨q,e,hq,hb⟩|⟨e,_⟩
    · exfalso
      apply hk;unfold Kb;refine List.mem_map.2 ⟨(K l n).reverse.getD q ByteArray.empty,List.mem_reverse.1 (getD_mem _ q hq),?_⟩;rw [toList_kb,toList_kb] at hb;exact hb
    · omega
  have hct:Co (fun k=>sCon.f k (K l n).reverse s) (decide (p≥0)):=Co.bind p2 (Co.const _);have hf:=fields_ev l g.le g.par n hn;obtain ⟨r,_,r2,r3⟩:=grow_l0 l g n hn s l.length 0 (Nat.zero_add _);refine ⟨r,?_,r3⟩;rw [decide_eq_false hp] at hct;refine Co.bind hhas (Co.of_eq (fun k=>if_pos rfl) (Co.of_eq (fun k=>if_neg (by omega)) (Co.bind hf (Co.bind hct ?_))));refine Co.step (g:=fun k=>(impl_Shape.f l).bind fun t163=>(impl_Grow.l0 k (n:Int) s l (l.length:Int) 0 l t163 (-1))) (fun k=>?_) (Co.bindc (a:=l) ?_ r2)
  · simp only [impl_Grow.j0]
    rw [if_neg (by simp)]
  · unfold impl_Shape.f
    simp only [Option.bind_some,List.nil_append,List.length_nil];rw [if_pos (by omega)]
theorem grow_same (l:List S75) (a:Int) (s:ByteArray):∃ r,Co (fun k=>spec_Grow.f k l a s) r∧Co (fun k=>impl_Grow.f k l a s) r∧Told l a s r:=by
  have hj0:Co (fun k=>impl_Grow.j0 k a s true l) (([]:List S75),(-1:Int)):=Co.step_const fun k=>by simp only [impl_Grow.j0];rfl
  by_cases h:code l=0∧0≤a∧a < (l.length:Int)
  · have g:=(code_zero l).1 h.1
    have hle:=g.le;have hhas:=has_co l a;rw [decide_eq_true h] at hhas
    by_cases hz:(s.size:Int) > 4000
    · refine ⟨(([]:List S75),(-1:Int)),?_,?_,Or.inl rfl⟩
      · refine Co.bind (spec_code l) (Co.of_eq (fun k=>if_pos h.1) (Co.bindc (l2shape_eq l a) ?_))
        rw [decide_eq_true h.2];exact Co.of_eq (fun k=>if_pos rfl) (Co.of_eq (fun k=>if_pos hz) (Co.const _))
      · exact Co.bind hhas (Co.of_eq (fun k=>if_pos rfl) (Co.of_eq (fun k=>if_pos hz) hj0))
    · obtain ⟨n,rfl⟩:∃ n:Nat,a=(n:Int):=⟨a.toNat,by omega⟩
      have hn:n < l.length:=by omega
      have hlen:(K l n).reverse.length < 4611686018427387904:=by
        have:=g.count_le n hn
        rw [List.length_reverse];omega
      obtain ⟨p,p1,p2,p3⟩:=at_val (K l n).reverse s hlen _ 0 (Nat.zero_add _);have hat:Co (fun k=>spec_l2at.f k l n s) p:=Co.bind (l2fields_co l g n hn) p1;have hct:Co (fun k=>sCon.f k (K l n).reverse s) (decide (p≥0)):=Co.bind p2 (Co.const _);have hf:=fields_ev l g.le g.par n hn
      by_cases hp:p≥0
      · refine ⟨(([]:List S75),(-1:Int)),?_,?_,Or.inl rfl⟩
        · refine Co.bind (spec_code l) (Co.of_eq (fun k=>if_pos h.1) (Co.bindc (l2shape_eq l n) ?_))
          rw [decide_eq_true h.2];exact Co.of_eq (fun k=>if_pos rfl) (Co.of_eq (fun k=>if_neg hz) (Co.bind hat (Co.of_eq (fun k=>if_pos hp) (Co.const _))))
        · rw [decide_eq_true hp] at hct
          exact Co.bind hhas (Co.of_eq (fun k=>if_pos rfl) (Co.of_eq (fun k=>if_neg hz) (Co.bind hf (Co.bind hct hj0))))
      · obtain ⟨r,r1,r2,r3⟩:=grow_l0 l g n hn s l.length 0 (Nat.zero_add _)
        have hno:∀ m,m < (K l n).reverse.length → ((K l n).reverse.getD m ByteArray.empty).toList≠s.toList:=by
          rcases p3 with ⟨q,e,_⟩|⟨_,hq⟩
          · omega
          · exact fun m hm=>hq m (Nat.zero_le _) hm
        refine ⟨r,?_,?_,Or.inr ⟨n,rfl,hn,g,by omega,notin_path l n s hno,r3⟩⟩
        · refine Co.bind (spec_code l) (Co.of_eq (fun k=>if_pos h.1) (Co.bindc (l2shape_eq l n) ?_))
          rw [decide_eq_true h.2];exact Co.of_eq (fun k=>if_pos rfl) (Co.of_eq (fun k=>if_neg hz) (Co.bind hat (Co.of_eq (fun k=>if_neg hp) (Co.bind (l2copy_co l hle) r1))))
        · rw [decide_eq_false hp] at hct
          refine Co.bind hhas (Co.of_eq (fun k=>if_pos rfl) (Co.of_eq (fun k=>if_neg hz) (Co.bind hf (Co.bind hct ?_))));refine Co.step (g:=fun k=>(impl_Shape.f l).bind fun t163=>(impl_Grow.l0 k (n:Int) s l (l.length:Int) 0 l t163 (-1))) (fun k=>?_) (Co.bindc (a:=l) ?_ r2)
          · simp only [impl_Grow.j0]
            rw [if_neg (by simp)]
          · unfold impl_Shape.f
            simp only [Option.bind_some,List.nil_append,List.length_nil];rw [if_pos (by omega)]
  · have hhas:=has_co l a
    rw [decide_eq_false h] at hhas;refine ⟨(([]:List S75),(-1:Int)),?_,Co.bind hhas (Co.of_eq (fun k=>if_neg (by simp)) hj0),Or.inl rfl⟩;refine Co.bind (spec_code l) ?_
    by_cases h0:code l=0
    · refine Co.of_eq (fun k=>if_pos h0) (Co.bindc (l2shape_eq l a) ?_)
      rw [decide_eq_false (fun q=>h ⟨h0,q⟩)];exact Co.of_eq (fun k=>if_neg (by simp)) (Co.const _)
    · exact Co.of_eq (fun k=>if_neg h0) (Co.const _)
end Go.Proofs.Ytclploookcjcbaa.PFr
