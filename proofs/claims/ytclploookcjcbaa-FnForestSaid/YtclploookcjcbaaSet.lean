/- Proved: the map of kid structs that ForestOk makes is a set of pairs: what a look-up and a store at it do, as laws for a walk. Conditions: the key's number is an int64 and its string no longer than a length. -/
import Derived.Test.YtclploookcjcbaaProg
import Derived.Maps.Own
import Derived.Maps.OwnOps
import Derived.Maps.Views
import Derived.DeepKeys4
import Derived.KernelRfl
import Derived.WalkKit
import Derived.ProofKit
set_option linter.unusedVariables false
namespace Go.Proofs.Ytclploookcjcbaa.SetMap
open Go Go.RowKit Go.Maps
theorem plainElem_bool_inv {H:Type} {P:Program} {e:TypeId} (he:P.underlying e=some .bool) {v:Value} {z:DataW H × List MemPlace} (h:plainElem P e v=some z):∃ x,v=.bool x∧z=(.lit (.bool x),[]):=by
  unfold plainElem at h;rw [he] at h
  cases v <;> simp_all
theorem laidOut:laidOutB Try.prog=true:=by kernel_rfl
theorem kidRow:84 < Try.prog.types.size:=of_decide_eq_true (by kernel_rfl)
theorem kidLaw:Keyed Try.prog 84:=Keyed.of_law (deep_law_laid laidOut (m:=4) (by omega) kidRow (by kernel_rfl) (by kernel_rfl))
theorem kidType:Try.prog.keyType 84=true:=by kernel_rfl
theorem kidCells:Try.prog.cellsOf 84=2:=by kernel_rfl
theorem intCells:Try.prog.cellsOf 3=1:=by kernel_rfl
theorem strCells:Try.prog.cellsOf 9=1:=by kernel_rfl
theorem typesSize:∃ m,Try.prog.types.size=m+1:=⟨Try.prog.types.size - 1,by kernel_rfl⟩
theorem zeroBool (w:World):(zeroValue 4).run Try.prog w=.ok (.bool false) w:=by kernel_rfl
/-- What a kid reads as, as a key: there is something. -/
theorem kidKey (p:Int) (s:ByteArray) (hp:(Lit.int .i64 p).wf=true) (hs:s.size≤maxLen):∃ kl,keyOf Try.prog 84 (.agg #[.int .i64 p,.string s])=some kl:=by
  obtain ⟨m,hm⟩:=typesSize;refine ⟨.string (keyBytes [.int .i64 p,.string s.data.toList]),?_⟩;unfold keyOf;rw [Try.underlying84]
  dsimp only
  rw [if_pos]
  · rw [hm]
    simp only [Value.cells,Program.keyLits,Try.underlying84]
    simp [kidCells,intCells,strCells,hp,hs,Try.underlying3,Try.underlying9]
  · rw [kidType]
    simp [Value.formed,Try.underlying84,kidCells]
/-! ### lists of pairs: what is met twice -/
def memUpto (l:List (Int × ByteArray)) (k:Nat) (p:Int) (s:List UInt8):Bool:=(l.take k).any fun x=>x.1==p && x.2.data.toList==s
/-- Of the first k some one is met before. -/
def dupUpto (l:List (Int × ByteArray)) (k:Nat):Bool:=(List.range k).any fun i=>memUpto l i l[i]!.1 l[i]!.2.data.toList
def dupB (l:List (Int × ByteArray)):Bool:=dupUpto l l.length
def keysFit (l:List (Int × ByteArray)):Bool:=l.all fun x=>(Lit.int .i64 x.1).wf && decide (x.2.size≤maxLen)
theorem mem_zero (l:List (Int × ByteArray)) (p:Int) (s:List UInt8):memUpto l 0 p s=false:=rfl
theorem dup_zero (l:List (Int × ByteArray)):dupUpto l 0=false:=rfl
theorem mem_step (l:List (Int × ByteArray)) (k:Nat) (hk:k < l.length) (p:Int) (s:List UInt8):memUpto l (k+1) p s=(memUpto l k p s || (l[k]!.1==p && l[k]!.2.data.toList==s)):=by
  unfold memUpto;rw [List.take_succ_eq_append_getElem hk,List.any_append,getElem!_pos l k hk]
  simp
theorem dup_step (l:List (Int × ByteArray)) (k:Nat):dupUpto l (k+1)=(dupUpto l k || memUpto l k l[k]!.1 l[k]!.2.data.toList):=by
  unfold dupUpto;rw [List.range_succ,List.any_append]
  simp
theorem upto_step (l:List (Int × ByteArray)) (k:Nat) (hk:k < l.length) (p:Int) (s:ByteArray) (he:l[k]! = (p,s)) (hd:dupUpto l k=false) (hm:memUpto l k p s.data.toList=false) :
    dupUpto l (k+1)=false∧∀ p' s',((p'==p && s'==s.data.toList) || memUpto l k p' s')=memUpto l (k+1) p' s':=by
  refine ⟨?_,fun p' s'=>?_⟩
  · rw [dup_step,hd,he]
    simpa using hm
  · rw [mem_step l k hk,he,Bool.or_comm]
    congr 1
    rw [Bool.eq_iff_iff];simp only [Bool.and_eq_true,beq_iff_eq];constructor <;> rintro ⟨rfl,rfl⟩ <;> exact ⟨rfl,rfl⟩
theorem dup_mono (l:List (Int × ByteArray)) (k:Nat) (h:dupUpto l k=true):∀ j,dupUpto l (k+j)=true
  |0=>h
  |j+1=>by rw [← Nat.add_assoc,dup_step,dup_mono l k h j];rfl
theorem dup_of_mem (l:List (Int × ByteArray)) (k:Nat) (hk:k < l.length) (hm:memUpto l k l[k]!.1 l[k]!.2.data.toList=true):dupB l=true:=by
  have h1:dupUpto l (k+1)=true:=by rw [dup_step,hm];simp
  have h2:=dup_mono l (k+1) h1 (l.length - (k+1));unfold dupB
  rwa [show k+1+(l.length - (k+1))=l.length by omega] at h2
theorem fit_at {l:List (Int × ByteArray)} (h:keysFit l=true) (k:Nat) (hk:k < l.length):(Lit.int .i64 l[k]!.1).wf=true∧l[k]!.2.size≤maxLen:=by
  unfold keysFit at h;rw [List.all_eq_true] at h
  have:=h l[k]! (by rw [getElem!_pos l k hk];exact List.getElem_mem hk)
  simpa using this
/-- Block b is a set of kids of at most n members: those of which f says so. -/
def SetIs (w:World) (b n:Nat) (f:Int → List UInt8 → Bool):Prop:=
  ∃ D:DataW Unit,w.ownsMap Try.prog 84 (plainElem Try.prog 4) b n D∧IsMap D∧∀ p s kl,keyOf Try.prog 84 (.agg #[.int .i64 p,.string s])=some kl → D.atKey kl (.lit (.bool false))=.lit (.bool (f p s.data.toList))
theorem SetIs.made (w:World):SetIs (w.alloc (.map #[] 0)) w.heap.size 0 (fun _ _=>false):=
  ⟨.map [],World.ownsMap_made _ _ _ _,isMap_empty,fun p s kl _=>rfl⟩
theorem SetIs.grown {w w':World} {b n:Nat} {f:Int → List UInt8 → Bool} {row:Option Nat} (h:SetIs w b n f) (hg:w.grownBy w' row) (hne:some b≠row):SetIs w' b n f:=by
  obtain ⟨D,h1,h2,h3⟩:=h;exact ⟨D,h1.kept hg hne,h2,h3⟩
theorem SetIs.lt {w:World} {b n:Nat} {f:Int → List UInt8 → Bool} (h:SetIs w b n f):b < w.heap.size:=by
  obtain ⟨D,h1,_⟩:=h;exact h1.lt
theorem SetIs.drew {w:World} {b n:Nat} {f:Int → List UInt8 → Bool} (h:SetIs w b n f):SetIs w.drew b n f:=h
theorem SetIs.block {w:World} {b n:Nat} {f:Int → List UInt8 → Bool} (h:SetIs w b n f):∃ es clock,w.heap[b]? = some (.map es clock):=by
  obtain ⟨D,⟨es,clock,hb,_⟩,_⟩:=h;exact ⟨es,clock,hb⟩
theorem SetIs.step {w w':World} {b n:Nat} {f:Int → List UInt8 → Bool} (h:SetIs w b n f) (hb:w'.heap[b]? = w.heap[b]?):SetIs w' b n f:=by
  obtain ⟨D,⟨es,clock,h0,h1,h2,h3⟩,h4,h5⟩:=h;exact ⟨D,⟨es,clock,hb.trans h0,h1,h2,h3⟩,h4,h5⟩
theorem SetIs.same {w:World} {b n:Nat} {f g:Int → List UInt8 → Bool} (h:SetIs w b n f) (hfg:∀ p s,f p s=g p s):SetIs w b n g:=by
  have:f=g:=by funext p s;exact hfg p s
  rw [← this];exact h
/-- 'seen[k]' at the operation. -/
theorem wpList_lookup_set (w:World) {ops:Array Oper} {rest:List Oper} {o:Oper} {a:Act} {Q:Exit → Act → World → Prop}
    (hg:o.guard=none) (m x:Operand) (hop:o.op=Op.lookup 82 m x false) (b n:Nat) (f:Int → List UInt8 → Bool) (hm:a.eval m=.map (some b)) (hs:SetIs w b n f) (p:Int) (s:ByteArray) (hx:a.eval x=.agg #[.int .i64 p,.string s])
    (hp:(Lit.int .i64 p).wf=true) (hl:s.size≤maxLen) (hK:wpList Try.prog ops Q rest (a.put o.dst (.bool (f p s.data.toList))) w):wpList Try.prog ops Q (o :: rest) a w:=by
  obtain ⟨kl,hkey⟩:=kidKey p s hp hl;obtain ⟨D,hown,_,hat⟩:=hs;refine wpList_plain hg fun K' hK'=>?_
  obtain ⟨v,ps,hrun,hv⟩:=hown.lookup kidLaw Try.underlying82 (zeroBool w) (plainElem_bool Try.underlying4 false) hkey;rw [hat p s kl hkey] at hv;obtain ⟨x',rfl,hz⟩:=plainElem_bool_inv Try.underlying4 hv;simp only [Prod.mk.injEq,DataW.lit.injEq,Lit.bool.injEq] at hz;obtain ⟨hz,_⟩:=hz;subst hz;unfold Oper.wp
  simp [execOp,hop,hm,hx,hrun,Result.andThen]
  exact hK' _ _ hK
/-- 'seen[k] = true' at the operation. -/
theorem wpList_update_set (w:World) {ops:Array Oper} {rest:List Oper} {o:Oper} {a:Act} {Q:Exit → Act → World → Prop}
    (hg:o.guard=none) (m x v:Operand) (hop:o.op=Op.mapUpdate 82 m x v) (b n:Nat) (f:Int → List UInt8 → Bool) (hm:a.eval m=.map (some b)) (hs:SetIs w b n f) (hn:n < maxLen) (p:Int) (s:ByteArray) (hx:a.eval x=.agg #[.int .i64 p,.string s]) (hv:a.eval v=.bool true)
    (hp:(Lit.int .i64 p).wf=true) (hl:s.size≤maxLen)
    (hK:∀ w',SetIs w' b (n+1) (fun p' s'=>(p'==p && s'==s.data.toList) || f p' s') → w.grownBy w' (some b) → wpList Try.prog ops Q rest (a.put o.dst undef) w'):wpList Try.prog ops Q (o :: rest) a w:=by
  obtain ⟨kl,hkey⟩:=kidKey p s hp hl;obtain ⟨D,hown,hmap,hat⟩:=hs;refine wpList_mapUpdate_own w hg m x v 82 hop 84 4 kidLaw Try.underlying82 (plainElem Try.prog 4) b n D hm hown hn _ _ kl hx hv hkey (.lit (.bool true)) [] (plainElem_bool Try.underlying4 true) ?_;intro w' hown' hgrow
  refine hK w' ⟨D.put kl (.lit (.bool true)),hown',hmap.put _ _,fun p' s' kl' hkey'=>?_⟩ hgrow
  by_cases e:kl'=kl
  · subst e
    have hv:=kidLaw.inj hkey hkey';simp only [Value.agg.injEq,Array.mk.injEq,List.cons.injEq,Value.int.injEq,Value.string.injEq,true_and,and_true] at hv;obtain ⟨rfl,rfl⟩:=hv;rw [atKey_put_same hmap (kidLaw.key hkey)]
    simp
  · rw [atKey_put_other e,hat p' s' kl' hkey']
    have:(p'==p && s'.data.toList==s.data.toList)=false:=by
      rw [Bool.and_eq_false_iff]
      by_cases h1:p'=p
      · right
        rw [beq_eq_false_iff_ne];intro h2
        apply e;have h3:s'=s:=by
          cases s;cases s'
          simp only [ByteArray.mk.injEq] at *;exact Array.toList_inj.1 h2
        subst h1 h3;rw [hkey] at hkey';exact (Option.some.inj hkey').symm
      · left
        rw [beq_eq_false_iff_ne];exact h1
    show DataW.lit (.bool (f p' s'.data.toList))=DataW.lit (.bool ((p'==p && s'.data.toList==s.data.toList) || f p' s'.data.toList))
    rw [this]
    simp
/-- 'map[kid]bool{}' at the operation: some new block is the empty set. -/
theorem wpList_make_set (w:World) {ops:Array Oper} {rest:List Oper} {o:Oper} {a:Act} {Q:Exit → Act → World → Prop}
    (hg:o.guard=none) (hop:o.op=Op.makeMap 82 none)
    (hK:∀ b w',SetIs w' b 0 (fun _ _=>false) → Below w.heap.size w w' → b=w.heap.size → wpList Try.prog ops Q rest (a.put o.dst (.map (some b))) w'):wpList Try.prog ops Q (o :: rest) a w:=by
  refine wpList_plain hg fun K' hK'=>?_
  unfold Oper.wp
  simp [execOp,hop,run_makeMap,Result.andThen]
  exact hK' _ _ (hK _ _ (SetIs.made w) ((Below.refl _ _).alloc (Nat.le_refl _) _) rfl)
end Go.Proofs.Ytclploookcjcbaa.SetMap
