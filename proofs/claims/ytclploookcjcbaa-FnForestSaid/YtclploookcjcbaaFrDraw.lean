/- Proved: what a forest is drawn from: every draw of the law FnForest ends, whatever the bytes. Conditions: those each theorem states. -/
import Derived.Test.YtclploookcjcbaaFrGood
import Derived.Test.YtclploookcjcbaaPFrQ
import Derived.Laws.BitsLemmas
set_option linter.unusedVariables false
namespace Go.Proofs.Ytclploookcjcbaa.PFr
open Go Go.RowKit Go.Proofs.YtclploookcjcbaaW.PrintWords Go.Proofs.Ytclploookcjcbaa.Ev
/-- All bytes. -/
def Byt (c:List Int):Prop:=∀ x ∈ c,0≤x∧x≤255
theorem rd_byt (c:List Int) (h:Byt c) (i:Int):0≤rd c i∧rd c i≤255:=by
  unfold rd;rw [List.getD_eq_getElem?_getD]
  by_cases hi:i.toNat < c.length
  · rw [List.getElem?_eq_getElem hi,Option.getD_some]
    exact h _ (List.getElem_mem hi)
  · rw [List.getElem?_eq_none (by omega)]
    simp
theorem u64_range (x:Int):0≤IntKind.u64.wrap x∧IntKind.u64.wrap x < 18446744073709551616:=by
  rw [IntKind.wrap_u64]
  omega
theorem and255 (x:Int) (h0:0≤x) (h1:x < 1152921504606846976):Go.bits .and .u64 x 255=x % 256:=
  bits_mask .u64 60 (by decide) (fun n a b=>IntWalk.u64_in n ⟨a,by omega⟩) 8 (by decide) x h0 h1
theorem next_ok (c:List Int) (hc:Byt c) (at_ sd m:Int) (h0:0≤at_) (h1:at_≤m) (hm:m < 4611686018427387904):∃ r at' sd',c6_next.f c at_ sd=some (r,at',sd')∧0≤r∧r≤255∧0≤at'∧at'≤m+1:=by
  unfold c6_next.f;have hw:wrap64 (at_+1)=at_+1:=IntWalk.wrap64_in _ ⟨by omega,by omega⟩
  by_cases h:at_ < (c.length:Int)
  · rw [if_pos h,if_pos h0]
    have hr:=rd_byt c hc at_
    exact ⟨_,_,_,rfl,by rw [IntWalk.wrap64_in _ ⟨by omega,by omega⟩];omega,by rw [IntWalk.wrap64_in _ ⟨by omega,by omega⟩];omega,by rw [hw];omega,by rw [hw];omega⟩
  · rw [if_neg h]
    have hr:=u64_range ((IntKind.u64.wrap (sd * 6364136223846793005))+1442695040888963407)
    generalize (IntKind.u64.wrap ((IntKind.u64.wrap (sd * 6364136223846793005))+1442695040888963407))=z at hr
    have ha:=and255 (z / 1099511627776) (by omega) (by omega);refine ⟨_,_,_,rfl,?_,?_,by rw [hw];omega,by rw [hw];omega⟩
    · rw [ha,IntWalk.wrap64_in _ ⟨by omega,by omega⟩];omega
    · rw [ha,IntWalk.wrap64_in _ ⟨by omega,by omega⟩];omega
theorem pick_ok (c:List Int) (hc:Byt c) (at_ sd n m:Int) (h0:0≤at_) (h1:at_≤m) (hm:m < 4611686018427387903):∃ r at' sd',c6_pick.f c at_ sd n=some (r,at',sd')∧0≤r∧(1≤n → r < n)∧0≤at'∧at'≤m+2:=by
  unfold c6_pick.f
  by_cases hn:n≤1
  · rw [if_pos hn]
    exact ⟨_,_,_,rfl,by omega,by omega,h0,by omega⟩
  · rw [if_neg hn]
    obtain ⟨r,a,s,e,r0,r1,a0,a1⟩:=next_ok c hc at_ sd m h0 h1 (by omega)
    rw [e];simp only [Option.bind_some]
    by_cases hg:n > 200
    · rw [if_pos hg]
      obtain ⟨r',a',s',e',r0',r1',a0',a1'⟩:=next_ok c hc a s (m+1) a0 a1 (by omega);rw [e'];simp only [Option.bind_some];rw [if_neg (by omega),IntWalk.wrap64_in (r * 256) ⟨by omega,by omega⟩,IntWalk.wrap64_in (r * 256+r') ⟨by omega,by omega⟩];exact ⟨_,_,_,rfl,Int.tmod_nonneg _ (by omega),fun _=>Int.tmod_lt_of_pos _ (by omega),a0',by omega⟩
    · rw [if_neg hg,if_neg (by omega)]
      exact ⟨_,_,_,rfl,Int.tmod_nonneg _ r0,fun _=>Int.tmod_lt_of_pos _ (by omega),a0,by omega⟩
theorem word_step (k:Nat) (s:ByteArray) (c:List Int) (a b:Int):c6_word.l0 (k+1) s c a b=if (s.size:Int) < 4000 then (if s.size+s.size≤9223372036854775807 then (c6_word.l0 k (s++s) c a b) else (none)) else ((c6_pick.f c a b 2).bind fun bt166=>(if 0≤(wrap64 (4000 - bt166.1)) then (if (wrap64 (4000 - bt166.1))≤(s.size:Int) then (some (s.extract 0 ((wrap64 (4000 - bt166.1)):Int).toNat,bt166.2.1,bt166.2.2)) else (none)) else (none))):=by
  rfl
theorem word_l0 (c:List Int) (hc:Byt c) (a b m:Int) (h0:0≤a) (h1:a≤m) (hm:m < 4611686018427387903):∀ d (s:ByteArray),4000 - s.size≤d → 1≤s.size → s.size≤8000 → ∃ r a' b',Co (fun k=>c6_word.l0 k s c a b) (r,a',b')∧r.size≤4000∧0≤a'∧a'≤m+2
  |0,s,hd,hs,hs2=>by
    obtain ⟨r,a',b',e,r0,r1,a0,a1⟩:=pick_ok c hc a b 2 m h0 h1 hm;have r2:=r1 (by omega);have hw:wrap64 (4000 - r)=4000 - r:=IntWalk.wrap64_in _ ⟨by omega,by omega⟩;refine ⟨s.extract 0 (4000 - r).toNat,a',b',Co.step_const fun k=>?_,?_,a0,a1⟩
    · rw [word_step,if_neg (by omega),e]
      simp only [Option.bind_some];rw [hw,if_pos (by omega),if_pos (by omega)]
    · rw [ByteArray.size_extract]
      omega
  |d+1,s,hd,hs,hs2=>by
    by_cases h:(s.size:Int) < 4000
    · have hz:(s++s).size=s.size+s.size:=ByteArray.size_append
      obtain ⟨r,a',b',e,r0,a0,a1⟩:=word_l0 c hc a b m h0 h1 hm d (s++s) (by omega) (by omega) (by omega);refine ⟨r,a',b',Co.step (fun k=>?_) e,r0,a0,a1⟩;rw [word_step,if_pos h,if_pos (by omega)]
    · obtain ⟨r,a',b',e,r0,a0,a1⟩:=word_l0 c hc a b m h0 h1 hm 0 s (by omega) hs hs2
      exact ⟨r,a',b',e,r0,a0,a1⟩
  termination_by d s=>d
theorem one_byte (x:Int):(strOfNums [x]).size=1:=rfl
theorem word_ok (c:List Int) (hc:Byt c) (a b m:Int) (h0:0≤a) (h1:a≤m) (hm:m < 4611686018427387900):∃ r a' b',Co (fun k=>c6_word.f k c a b) (r,a',b')∧r.size≤4000∧0≤a'∧a'≤m+4:=by
  obtain ⟨p,a1,b1,e,p0,p1,a10,a11⟩:=pick_ok c hc a b 40 m h0 h1 (by omega)
  by_cases hp:p=0
  · obtain ⟨r,a2,b2,e2,r0,a20,a21⟩:=word_l0 c hc a1 b1 (m+2) a10 a11 (by omega) 4000 (⟨#[48,49,50,51,52,53,54,55,56,57]⟩:ByteArray) (by omega) (by decide) (by decide)
    refine ⟨r,a2,b2,?_,r0,a20,by omega⟩;exact Co.bindc e (Co.of_eq (fun k=>if_pos hp) e2)
  · obtain ⟨q,a2,b2,e2,q0,q1,a20,a21⟩:=pick_ok c hc a1 b1 15 (m+2) a10 a11 (by omega)
    refine ⟨_,a2,b2,Co.bindc e (Co.of_eq (fun k=>if_neg hp) (Co.bindc e2 (Co.const _))),?_,a20,by omega⟩
    show (strOfNums [_]).size≤4000
    rw [one_byte]
    omega
theorem long_step (k:Nat) (s:ByteArray):spec_l6long.l0 (k+1) s=if (s.size:Int)≤4000 then (if s.size+s.size≤9223372036854775807 then (spec_l6long.l0 k (s++s)) else (none)) else (some s):=by
  rfl
theorem long_l0:∀ d (s:ByteArray),4001 - s.size≤d → 1≤s.size → s.size≤8000 → ∃ r,Co (fun k=>spec_l6long.l0 k s) r∧r.size≤8000
  |0,s,hd,hs,hs2=>⟨s,Co.step_const fun k=>by rw [long_step,if_neg (by omega)],hs2⟩
  |d+1,s,hd,hs,hs2=>by
    by_cases h:(s.size:Int)≤4000
    · have hz:(s++s).size=s.size+s.size:=ByteArray.size_append
      obtain ⟨r,e,r0⟩:=long_l0 d (s++s) (by omega) (by omega) (by omega);refine ⟨r,Co.step (fun k=>?_) e,r0⟩;rw [long_step,if_pos h,if_pos (by omega)]
    · exact ⟨s,Co.step_const fun k=>by rw [long_step,if_neg h],hs2⟩
theorem long_ok:∃ r,Co (fun k=>spec_l6long.f k) r∧r.size≤8000:=long_l0 4001 (⟨#[120]⟩:ByteArray) (by omega) (by decide) (by decide)
theorem l2at_ok (l:List S75) (g:Good l) (n:Nat) (hn:n < l.length) (s:ByteArray):∃ r,Co (fun k=>spec_l2at.f k l n s) r∧(r < 0 → s.data.toList ∉ Kb l n):=by
  have hlen:(K l n).reverse.length < 4611686018427387904:=by
    have:=g.count_le n hn
    rw [List.length_reverse];omega
  obtain ⟨p,p1,_,p3⟩:=at_val (K l n).reverse s hlen _ 0 (Nat.zero_add _);refine ⟨p,Co.bind (l2fields_co l g n hn) p1,fun hp=>?_⟩
  rcases p3 with ⟨q,e,_⟩|⟨_,hq⟩
  · omega
  · exact notin_path l n s fun m hm=>hq m (Nat.zero_le _) hm
theorem forest_l0 (c:List Int) (hc:Byt c):∀ (d:Nat) (l:List S75) (g:Good l) (a b m:Int),0≤a → a≤m → d≤600 → m+6 * d < 4611686018427387000 → ∃ l' a' b',Co (fun k=>c6_forest.l0 k d c a b l) (l',a',b')∧Good l'∧0≤a'∧a'≤m+6 * d
  |0,l,g,a,b,m,h0,h1,hd,hm=>⟨l,a,b,Co.step_const fun k=>by simp only [c6_forest.l0];rw [if_neg (by omega)],g,h0,by omega⟩
  |d+1,l,g,a,b,m,h0,h1,hd,hm=>by
    have hle:=g.le;have hpos:=g.pos;obtain ⟨p,a1,b1,e1,p0,p1,a10,a11⟩:=pick_ok c hc a b (l.length:Int) m h0 h1 (by omega);have p2:=p1 (by omega);obtain ⟨n,rfl⟩:∃ n:Nat,p=(n:Int):=⟨p.toNat,by omega⟩
    have hn:n < l.length:=by omega
    obtain ⟨s,a2,b2,e2,s0,a20,a21⟩:=word_ok c hc a1 b1 (m+2) a10 a11 (by omega);obtain ⟨t,t1,t2⟩:=l2at_ok l g n hn s;have hw:wrap64 (((d+1:Nat):Int) - 1)=(d:Int):=by rw [IntWalk.wrap64_in _ ⟨by omega,by omega⟩];omega
    by_cases ht:t < 0
    · obtain ⟨r,r1,_,r3⟩:=grow_l0 l g n hn s l.length 0 (Nat.zero_add _)
      obtain ⟨g',_⟩:=grew_good l g n hn s s0 (t2 ht) r r3;obtain ⟨l',a',b',e',g'',a'0,a'1⟩:=forest_l0 c hc d r.1 g' a2 b2 (m+6) a20 (by omega) (by omega) (by omega);refine ⟨l',a',b',?_,g'',a'0,by omega⟩;refine Co.step (g:=fun k=>(c6_pick.f c a b (l.length:Int)).bind fun bt144=>((c6_word.f k c bt144.2.1 bt144.2.2).bind fun bt147=>((spec_l2at.f k l bt144.1 bt147.1).bind fun t150=>(if t150 < 0 then ((spec_l2grow.f k l bt144.1 bt147.1).bind fun bt151=>(c6_forest.l0 k (wrap64 (((d+1:Nat):Int) - 1)) c bt147.2.1 bt147.2.2 bt151.1)) else (c6_forest.l0 k (wrap64 (((d+1:Nat):Int) - 1)) c bt147.2.1 bt147.2.2 l))))) (fun k=>?_) ?_
      · simp only [c6_forest.l0]
        rw [if_pos (by omega)]
      · rw [hw]
        exact Co.bindc e1 (Co.bind e2 (Co.bind t1 (Co.of_eq (fun k=>if_pos ht) (Co.bind r1 e'))))
    · obtain ⟨l',a',b',e',g'',a'0,a'1⟩:=forest_l0 c hc d l g a2 b2 (m+6) a20 (by omega) (by omega) (by omega)
      refine ⟨l',a',b',?_,g'',a'0,by omega⟩;refine Co.step (g:=fun k=>(c6_pick.f c a b (l.length:Int)).bind fun bt144=>((c6_word.f k c bt144.2.1 bt144.2.2).bind fun bt147=>((spec_l2at.f k l bt144.1 bt147.1).bind fun t150=>(if t150 < 0 then ((spec_l2grow.f k l bt144.1 bt147.1).bind fun bt151=>(c6_forest.l0 k (wrap64 (((d+1:Nat):Int) - 1)) c bt147.2.1 bt147.2.2 bt151.1)) else (c6_forest.l0 k (wrap64 (((d+1:Nat):Int) - 1)) c bt147.2.1 bt147.2.2 l))))) (fun k=>?_) ?_
      · simp only [c6_forest.l0]
        rw [if_pos (by omega)]
      · rw [hw]
        exact Co.bindc e1 (Co.bind e2 (Co.bind t1 (Co.of_eq (fun k=>if_neg ht) e')))
theorem root_good:Good [(⟨(-1),(⟨#[]⟩:ByteArray),0⟩:S75)]:=by
  refine ⟨by simp,by simp,rfl,rfl,rfl,?_,?_,?_⟩
  · intro i h1 h2
    simp at h2
    omega
  · rintro ⟨i,j,h1,h2,h3,_⟩
    simp at h3
    omega
  · intro i h1 h2
    simp at h2
    omega
theorem forest_ok (c:List Int) (hc:Byt c):∃ l a b,Co (fun k=>c6_forest.f k c 0 0) (l,a,b)∧Good l∧0≤a∧a≤4000:=by
  obtain ⟨p,a1,b1,e1,p0,p1,a10,a11⟩:=pick_ok c hc 0 0 30 0 (by omega) (by omega) (by omega);have p2:=p1 (by omega);obtain ⟨q,a2,b2,e2,q0,q1,a20,a21⟩:=pick_ok c hc a1 b1 10 2 a10 (by omega) (by omega);obtain ⟨n,rfl⟩:∃ n:Nat,p=(n:Int):=⟨p.toNat,by omega⟩
  have step:∀ (d:Nat),d≤600 → ∃ l a b,Co (fun k=>c6_forest.j0 k d c a2 b2 [(⟨(-1),(⟨#[]⟩:ByteArray),0⟩:S75)]) (l,a,b)∧Good l∧0≤a∧a≤4000:=by
    intro d hd
    obtain ⟨l,a,b,e,g,h0,h1⟩:=forest_l0 c hc d _ root_good a2 b2 4 a20 (by omega) hd (by omega);refine ⟨l,a,b,Co.step (fun k=>?_) e,g,h0,by omega⟩;simp only [c6_forest.j0]
  by_cases hq:q=0
  · obtain ⟨l,a,b,e,g,h0,h1⟩:=step 600 (by omega)
    exact ⟨l,a,b,Co.bindc rfl (Co.bindc e1 (Co.bindc e2 (Co.of_eq (fun k=>if_pos hq) e))),g,h0,h1⟩
  · obtain ⟨l,a,b,e,g,h0,h1⟩:=step n (by omega)
    exact ⟨l,a,b,Co.bindc rfl (Co.bindc e1 (Co.bindc e2 (Co.of_eq (fun k=>if_neg hq) e))),g,h0,h1⟩
theorem spoil_ok (c:List Int) (hc:Byt c) (l:List S75) (hl:l.length≤200) (a b m:Int) (h0:0≤a) (h1:a≤m) (hm:m < 4611686018427380000):∃ l' a' b',Co (fun k=>c6_spoilforest.f k c a b l) (l',a',b')∧l'.length≤201∧0≤a'∧a'≤m+20:=by
  obtain ⟨p,a1,b1,e1,p0,p1,a10,a11⟩:=pick_ok c hc a b 8 m h0 h1 (by omega);have none_:∃ l' a' b',Co (fun k=>c6_spoilforest.j0 k true c a1 b1 l) (l',a',b')∧l'.length≤201∧0≤a'∧a'≤m+20:=
    ⟨[],a1,b1,Co.step_const fun k=>by simp only [c6_spoilforest.j0];rfl,by simp,a10,by omega⟩
  by_cases hp:p=0
  · obtain ⟨l',a',b',e,h⟩:=none_
    exact ⟨l',a',b',Co.bindc e1 (Co.of_eq (fun k=>if_pos hp) e),h⟩
  · by_cases hz:l.length=0
    · obtain ⟨l',a',b',e,h⟩:=none_
      refine ⟨l',a',b',Co.bindc e1 (Co.of_eq (fun k=>if_neg hp) ?_),h⟩
      have:((l.length:Int)==0)=true:=by rw [hz];rfl
      rw [this];exact e
    · have hf:((l.length:Int)==0)=false:=by simpa using hz
      obtain ⟨i,a2,b2,e2,i0,i1,a20,a21⟩:=pick_ok c hc a1 b1 (l.length:Int) (m+2) a10 a11 (by omega);have i2:=i1 (by omega);obtain ⟨q,a3,b3,e3,q0,q1,a30,a31⟩:=pick_ok c hc a2 b2 4 (m+4) a20 (by omega) (by omega);have main:∃ l' a' b',Co (fun k=>c6_spoilforest.j0 k false c a1 b1 l) (l',a',b')∧l'.length≤201∧0≤a'∧a'≤m+20:=by
        by_cases q_0:q=0
        · obtain ⟨z,a4,b4,e4,z0,z1,a40,a41⟩:=pick_ok c hc a3 b3 (wrap64 ((l.length:Int)+2)) (m+6) a30 (by omega) (by omega)
          refine ⟨_,a4,b4,Co.step_const (c:=(l.set (i:Int).toNat (⟨wrap64 (z - 1),(rT l i).f1,(rT l i).f2⟩:S75),a4,b4)) fun k=>?_,by rw [List.length_set];omega,a40,by omega⟩;simp only [c6_spoilforest.j0];rw [if_neg (by simp),e2];simp only [Option.bind_some];rw [e3];simp only [Option.bind_some];rw [if_pos q_0,e4];simp only [Option.bind_some];rw [if_pos i0,if_pos i2]
        · by_cases q_1:q=1
          · obtain ⟨s,a4,b4,e4,s0,a40,a41⟩:=word_ok c hc a3 b3 (m+6) a30 (by omega) (by omega)
            refine ⟨l.set (i:Int).toNat (⟨(rT l i).f0,s,(rT l i).f2⟩:S75),a4,b4,Co.step (g:=fun k=>(c6_word.f k c a3 b3).bind fun bt146=>(if 0≤i then (if i < (l.length:Int) then (some ((l.set (i:Int).toNat (⟨(rT l i).f0,bt146.1,(rT l i).f2⟩:S75)),bt146.2.1,bt146.2.2)) else (none)) else (none))) (fun k=>?_) (Co.bind e4 (Co.of_eq (fun k=>by simp only [];rw [if_pos i0,if_pos i2]) (Co.const _))),by rw [List.length_set];omega,a40,by omega⟩;simp only [c6_spoilforest.j0];rw [if_neg (by simp),e2];simp only [Option.bind_some];rw [e3];simp only [Option.bind_some];rw [if_neg q_0,if_pos q_1]
          · by_cases q_2:q=2
            · obtain ⟨z,a4,b4,e4,z0,z1,a40,a41⟩:=pick_ok c hc a3 b3 3 (m+6) a30 (by omega) (by omega)
              refine ⟨_,a4,b4,Co.step_const (c:=(l.set (i:Int).toNat (⟨(rT l i).f0,(rT l i).f1,wrap64 (((rT l i).f2)+(wrap64 (z - 1)))⟩:S75),a4,b4)) fun k=>?_,by rw [List.length_set];omega,a40,by omega⟩;simp only [c6_spoilforest.j0];rw [if_neg (by simp),e2];simp only [Option.bind_some];rw [e3];simp only [Option.bind_some];rw [if_neg q_0,if_neg q_1,if_pos q_2,if_pos i0,if_pos i2,e4];simp only [Option.bind_some]
            · refine ⟨_,a3,b3,Co.step_const (c:=(l++[(⟨(rT l i).f0,(rT l i).f1,(rT l i).f2⟩:S75)],a3,b3)) fun k=>?_,by simp;omega,a30,by omega⟩
              simp only [c6_spoilforest.j0];rw [if_neg (by simp),e2];simp only [Option.bind_some];rw [e3];simp only [Option.bind_some];rw [if_neg q_0,if_neg q_1,if_neg q_2,if_pos i0,if_pos i2,if_pos (by omega)]
      obtain ⟨l',a',b',e,h⟩:=main;refine ⟨l',a',b',Co.bindc e1 (Co.of_eq (fun k=>if_neg hp) ?_),h⟩;rw [hf];exact e
theorem l6forest_ok (c:List Int) (hc:Byt c):∃ l a b,Co (fun k=>spec_l6forest.f k c 0 0) (l,a,b)∧l.length≤201∧0≤a∧a≤5000:=by
  obtain ⟨l,a,b,e,g,h0,h1⟩:=forest_ok c hc;have hle:=g.le;obtain ⟨p,a1,b1,e1,p0,p1,a10,a11⟩:=pick_ok c hc a b 5 4000 h0 h1 (by omega)
  by_cases hp:p=0
  · obtain ⟨l',a',b',e',h2,h3,h4⟩:=spoil_ok c hc l hle a1 b1 4002 a10 (by omega) (by omega)
    exact ⟨l',a',b',Co.bind e (Co.bindc e1 (Co.of_eq (fun k=>if_pos hp) (Co.bind e' (Co.const _)))),h2,h3,by omega⟩
  · exact ⟨l,a1,b1,Co.bind e (Co.bindc e1 (Co.of_eq (fun k=>if_neg hp) (Co.const _))),by omega,a10,by omega⟩
theorem draw_ok (c:List Int) (hc:Byt c):∃ l n s,Co (fun k=>spec_DrawGrow.f k c) (l,n,s):=by
  obtain ⟨l,a,b,e,h,h0,h1⟩:=l6forest_ok c hc;obtain ⟨p,a1,b1,e1,p0,p1,a10,a11⟩:=pick_ok c hc a b (wrap64 ((l.length:Int)+2)) 5000 h0 h1 (by omega);obtain ⟨s,a2,b2,e2,s0,a20,a21⟩:=word_ok c hc a1 b1 5002 a10 (by omega) (by omega);obtain ⟨q,a3,b3,e3,q0,q1,a30,a31⟩:=pick_ok c hc a2 b2 30 5006 a20 (by omega) (by omega);obtain ⟨z,z1,z2⟩:=long_ok
  by_cases hq:q=0
  · refine ⟨l,wrap64 (p - 1),s++z,Co.bind (a:=(l,wrap64 (p - 1),s++z,a3,b3)) ?_ (Co.const _)⟩
    exact Co.bind e (Co.bindc e1 (Co.bind e2 (Co.bindc e3 (Co.of_eq (fun k=>if_pos hq) (Co.bind z1 (Co.of_eq (fun k=>if_pos (by show s.size+z.size≤9223372036854775807;omega)) (Co.const _)))))))
  · refine ⟨l,wrap64 (p - 1),s,Co.bind (a:=(l,wrap64 (p - 1),s,a3,b3)) ?_ (Co.const _)⟩
    exact Co.bind e (Co.bindc e1 (Co.bind e2 (Co.bindc e3 (Co.of_eq (fun k=>if_neg hq) (Co.const _)))))
end Go.Proofs.Ytclploookcjcbaa.PFr
