/- Proved: each Go function that is named below comes to the answers of the Lean function printed for it. Printed by a changed copy of the kit's print program (wip/mkpk.py), for this claim. -/
import Derived.Test.YtclploookcjcbaaProg
import Derived.Test.YtclploookcjcbaaSortRow
import Derived.Test.YtclploookcjcbaaSet
import Derived.Lib.SliceRun
import Derived.Below
import Derived.Deep.Draws
import Derived.Deep.AppendLies
import Derived.Maps.AppendAt
import Derived.OwnWalk
import Derived.Laws.BytesArg
import Derived.Laws.MakeOwn
import Derived.Laws.OwnMore
import Derived.Deep.OwnRows
import Derived.Tactics
import Derived.Lib.ConvBytes
import Derived.Laws.Slices
import Derived.WalkKit
import Derived.KernelRfl
import Derived.RowKit3
import Derived.Deep.LoopGhost
import Derived.Deep.QuietTactic
import Derived.BigQuiet
import Derived.WideLaws
import Derived.Deep.DeepCutAuto
import Derived.Deep.CutBlock
import Derived.Deep.RegionHeld3
import Derived.Laws.Rows
import Derived.Lib.AppendStr
import Derived.ArgAppend
import Derived.Laws.IdiomCopy
import Derived.OrdersHeld
import Derived.Laws.BitsLemmas
import Derived.RowKit
import Derived.Test.YtclploookcjcbaaVWords
import Derived.Test.YtclploookcjcbaaVLast
import Derived.Test.YtclploookcjcbaaVTab
import Derived.Test.YtclploookcjcbaaVQPut
import Derived.Test.YtclploookcjcbaaVApart
import Derived.Test.YtclploookcjcbaaVArr
import Derived.Test.YtclploookcjcbaaVZeros
import Derived.Test.YtclploookcjcbaaVFoot
import Derived.Test.YtclploookcjcbaaVKept
import Derived.Test.YtclploookcjcbaaVShare
import Derived.Test.YtclploookcjcbaaVN
import Derived.Test.YtclploookcjcbaaVRepsOne
import Derived.Test.YtclploookcjcbaaVGuard
import Derived.Test.YtclploookcjcbaaVNEv
import Derived.Test.YtclploookcjcbaaVMore
import Derived.Test.YtclploookcjcbaaVEqStruct
import Derived.Test.YtclploookcjcbaaFlt
namespace Go.Proofs.Ytclploookcjcbaa.PFr
open Go.RowKit Go.Proofs.YtclploookcjcbaaW.PrintWords Go.Proofs.YtclploookcjcbaaW.PrintLast Go.Proofs.YtclploookcjcbaaW.PrintMore
attribute [local go_sem] max2_int min2_int max_two min_two max_three min_three max_four min_four   -- for this text's walks alone
set_option linter.unusedVariables false
set_option linter.unusedSimpArgs false



def errW:Option Int → Value
  |none=>.nilIface
  |some c=>.iface 0 (.int .i64 c)
theorem errW_none:errW none=.nilIface:=rfl
theorem errW_some (c:Int):errW (some c)=.iface 0 (.int .i64 c):=rfl

theorem info5:(Try.prog.info? 5).map (fun i=>(i.zero,i.size,i.bytes))=some (some (.int .u8 0),1,1):=by kernel_rfl
theorem info9:(Try.prog.info? 9).map (fun i=>(i.zero,i.size,i.bytes))=some (some (.string ⟨#[]⟩),1,16):=by kernel_rfl
theorem info75:(Try.prog.info? 75).map (fun i=>(i.zero,i.size,i.bytes))=some (some (.agg #[(.int .i64 0),(.string ⟨#[]⟩),(.int .i64 0)]),3,32):=by kernel_rfl
-- the values' own types
/-! #### struct type 75 -/
structure S75 where
  f0:Int
  f1:ByteArray
  f2:Int
def z75:S75:=⟨(0:Int),(⟨#[]⟩:ByteArray),(0:Int)⟩
def k75:Kd S75:=Kd.iso (Kd.pair (Kd.int .i64) (Kd.pair Kd.string (Kd.int .i64))) (fun x:S75=>(x.f0,x.f1,x.f2))
theorem k75_open {w:World} {x:S75} {cs:List Value} (h:k75.K w x cs):cs=[.int .i64 x.f0,.string x.f1,.int .i64 x.f2]:=by
  obtain ⟨_,_,rfl,rfl,⟨_,_,rfl,rfl,rfl⟩⟩:=h;exact rfl
theorem k75_openM {w:World} {base:Nat} {ok:Nat → Prop} {x:S75} {cs:List Value} (h:k75.M w base ok x cs):cs=[.int .i64 x.f0,.string x.f1,.int .i64 x.f2]:=by
  obtain ⟨_,_,rfl,rfl,⟨_,_,rfl,rfl,rfl⟩⟩:=h;exact rfl
theorem k75_mk (w:World) (x:S75) :k75.K w x [.int .i64 x.f0,.string x.f1,.int .i64 x.f2]:=⟨[.int .i64 x.f0],[.string x.f1,.int .i64 x.f2],rfl,rfl,⟨[.string x.f1],[.int .i64 x.f2],rfl,rfl,rfl⟩⟩
theorem k75_mkM (w:World) (base:Nat) (ok:Nat → Prop) (x:S75) :k75.M w base ok x [.int .i64 x.f0,.string x.f1,.int .i64 x.f2]:=⟨[.int .i64 x.f0],[.string x.f1,.int .i64 x.f2],rfl,rfl,⟨[.string x.f1],[.int .i64 x.f2],rfl,rfl,rfl⟩⟩
def rT (xs:List S75) (i:Int):S75:=xs.getD i.toNat z75
theorem at_T75 {w:World} {A:Option Addr} {n:Nat} {xs:List S75} (h:Kd.C k75 w A n xs) (i:Int) (h0:0≤i) (h1:i < n):∃ ad,A=some ad∧w.cell? (ad.add (i.toNat * 3))=some (.int .i64 (rT xs i).f0)∧w.cell? ⟨(ad.add (i.toNat * 3)).block,(ad.add (i.toNat * 3)).off+1,none⟩=some (.string (rT xs i).f1)∧w.cell? ⟨(ad.add (i.toNat * 3)).block,(ad.add (i.toNat * 3)).off+2,none⟩=some (.int .i64 (rT xs i).f2):=by
  obtain ⟨ad,c,e,_,hK,hc0⟩:=Kd.C_get h z75 i h0 h1;have hc:∀ j u,c[j]? = some u → w.cell? (ad.add (i.toNat * 3+j))=some u:=hc0
  obtain rfl:=k75_open hK
  exact ⟨ad,e,hc 0 _ rfl,by rw [← add_field _ _ 1 (by omega)];exact hc 1 _ rfl,by rw [← add_field _ _ 2 (by omega)];exact hc 2 _ rfl⟩

def rd_L3 (xs:List (List ByteArray)) (i:Int):(List ByteArray):=xs.getD i.toNat ([]:List ByteArray)
theorem at_L3 {w:World} {A:Option Addr} {n:Nat} {xs:List (List ByteArray)} (h:Kd.C (Kd.slice 9 Kd.string) w A n xs) (i:Int) (h0:0≤i) (h1:i < n):∃ ad A0 c0,A=some ad∧w.cell? (ad.add i.toNat)=some (.slice A0 (rd_L3 xs i).length c0)∧(rd_L3 xs i).length≤c0∧Kd.string.C w A0 (rd_L3 xs i).length (rd_L3 xs i):=by
  obtain ⟨ad,c,e,_,hK,hc0⟩:=Kd.C_get h ([]:List ByteArray) i h0 h1;have hc:∀ j u,c[j]? = some u → w.cell? (ad.add (i.toNat * 1+j))=some u:=hc0
  obtain ⟨A0,c0,rfl,l0,g0⟩:=hK;exact ⟨ad,A0,c0,e,by have hq:=hc 0 _ rfl;rwa [Nat.mul_one,Nat.add_zero] at hq,l0,g0⟩

def rd_L4 (xs:List (List S75)) (i:Int):(List S75):=xs.getD i.toNat ([]:List S75)
theorem at_L4 {w:World} {A:Option Addr} {n:Nat} {xs:List (List S75)} (h:Kd.C (Kd.slice 75 k75) w A n xs) (i:Int) (h0:0≤i) (h1:i < n):∃ ad A0 c0,A=some ad∧w.cell? (ad.add i.toNat)=some (.slice A0 (rd_L4 xs i).length c0)∧(rd_L4 xs i).length≤c0∧k75.C w A0 (rd_L4 xs i).length (rd_L4 xs i):=by
  obtain ⟨ad,c,e,_,hK,hc0⟩:=Kd.C_get h ([]:List S75) i h0 h1;have hc:∀ j u,c[j]? = some u → w.cell? (ad.add (i.toNat * 1+j))=some u:=hc0
  obtain ⟨A0,c0,rfl,l0,g0⟩:=hK;exact ⟨ad,A0,c0,e,by have hq:=hc 0 _ rfl;rwa [Nat.mul_one,Nat.add_zero] at hq,l0,g0⟩

/-! #### struct type 36 -/
structure S36 where
  f0:(List S75)
def z36:S36:=⟨([]:List S75)⟩
def k36:Kd S36:=Kd.iso (Kd.slice 75 k75) (fun x:S36=>x.f0)
theorem k36_open {w:World} {x:S36} {cs:List Value} (h:k36.K w x cs):∃ A0 c0,cs=[.slice A0 x.f0.length c0]∧x.f0.length≤c0∧k75.C w A0 x.f0.length x.f0:=by
  obtain ⟨A0,c0,rfl,l0,g0⟩:=h;exact ⟨A0,c0,rfl,l0,g0⟩
theorem k36_openM {w:World} {base:Nat} {ok:Nat → Prop} {x:S36} {cs:List Value} (h:k36.M w base ok x cs):∃ v0,cs=[v0]∧k75.R 75 w base ok v0 x.f0:=by
  obtain ⟨v0,rfl,g0⟩:=h;exact ⟨v0,rfl,g0⟩
theorem k36_mk (w:World) (x:S36) {A0:Option Addr} {c0:Nat} (l0:x.f0.length≤c0) (g0:k75.C w A0 x.f0.length x.f0):k36.K w x [.slice A0 x.f0.length c0]:=⟨A0,c0,rfl,l0,g0⟩
theorem k36_mkM (w:World) (base:Nat) (ok:Nat → Prop) (x:S36) {v0:Value} (g0:k75.R 75 w base ok v0 x.f0):k36.M w base ok x [v0]:=⟨v0,rfl,g0⟩
def rd_T36 (xs:List S36) (i:Int):S36:=xs.getD i.toNat z36
theorem at_T36 {w:World} {A:Option Addr} {n:Nat} {xs:List S36} (h:Kd.C k36 w A n xs) (i:Int) (h0:0≤i) (h1:i < n):∃ ad A0 c0,A=some ad∧w.cell? (ad.add i.toNat)=some (.slice A0 (rd_T36 xs i).f0.length c0)∧(rd_T36 xs i).f0.length≤c0∧k75.C w A0 (rd_T36 xs i).f0.length (rd_T36 xs i).f0:=by
  obtain ⟨ad,c,e,_,hK,hc0⟩:=Kd.C_get h z36 i h0 h1;have hc:∀ j u,c[j]? = some u → w.cell? (ad.add (i.toNat * 1+j))=some u:=hc0
  obtain ⟨A0,c0,rfl,l0,g0⟩:=k36_open hK;exact ⟨ad,A0,c0,e,by have hq:=hc 0 _ rfl;rwa [Nat.mul_one,Nat.add_zero] at hq,l0,g0⟩

/-! #### struct type 27 -/
structure S27 where
  f0:Int
  f1:Int
  f2:Nat
  f3:ByteArray
  f4:Int
def z27:S27:=⟨(0:Int),(0:Int),(0:Nat),(⟨#[]⟩:ByteArray),(0:Int)⟩
def k27:Kd S27:=Kd.iso (Kd.pair (Kd.int .i64) (Kd.pair (Kd.int .i64) (Kd.pair Kd.float (Kd.pair Kd.string (Kd.int .i64))))) (fun x:S27=>(x.f0,x.f1,x.f2,x.f3,x.f4))
theorem k27_open {w:World} {x:S27} {cs:List Value} (h:k27.K w x cs):cs=[.int .i64 x.f0,.int .i64 x.f1,.float .f64 x.f2,.string x.f3,.int .i64 x.f4]:=by
  obtain ⟨_,_,rfl,rfl,⟨_,_,rfl,rfl,⟨_,_,rfl,rfl,⟨_,_,rfl,rfl,rfl⟩⟩⟩⟩:=h;exact rfl
theorem k27_openM {w:World} {base:Nat} {ok:Nat → Prop} {x:S27} {cs:List Value} (h:k27.M w base ok x cs):cs=[.int .i64 x.f0,.int .i64 x.f1,.float .f64 x.f2,.string x.f3,.int .i64 x.f4]:=by
  obtain ⟨_,_,rfl,rfl,⟨_,_,rfl,rfl,⟨_,_,rfl,rfl,⟨_,_,rfl,rfl,rfl⟩⟩⟩⟩:=h;exact rfl
theorem k27_mk (w:World) (x:S27) :k27.K w x [.int .i64 x.f0,.int .i64 x.f1,.float .f64 x.f2,.string x.f3,.int .i64 x.f4]:=⟨[.int .i64 x.f0],[.int .i64 x.f1,.float .f64 x.f2,.string x.f3,.int .i64 x.f4],rfl,rfl,⟨[.int .i64 x.f1],[.float .f64 x.f2,.string x.f3,.int .i64 x.f4],rfl,rfl,⟨[.float .f64 x.f2],[.string x.f3,.int .i64 x.f4],rfl,rfl,⟨[.string x.f3],[.int .i64 x.f4],rfl,rfl,rfl⟩⟩⟩⟩
theorem k27_mkM (w:World) (base:Nat) (ok:Nat → Prop) (x:S27) :k27.M w base ok x [.int .i64 x.f0,.int .i64 x.f1,.float .f64 x.f2,.string x.f3,.int .i64 x.f4]:=⟨[.int .i64 x.f0],[.int .i64 x.f1,.float .f64 x.f2,.string x.f3,.int .i64 x.f4],rfl,rfl,⟨[.int .i64 x.f1],[.float .f64 x.f2,.string x.f3,.int .i64 x.f4],rfl,rfl,⟨[.float .f64 x.f2],[.string x.f3,.int .i64 x.f4],rfl,rfl,⟨[.string x.f3],[.int .i64 x.f4],rfl,rfl,rfl⟩⟩⟩⟩
def rd_T27 (xs:List S27) (i:Int):S27:=xs.getD i.toNat z27
theorem at_T27 {w:World} {A:Option Addr} {n:Nat} {xs:List S27} (h:Kd.C k27 w A n xs) (i:Int) (h0:0≤i) (h1:i < n):∃ ad,A=some ad∧w.cell? (ad.add (i.toNat * 5))=some (.int .i64 (rd_T27 xs i).f0)∧w.cell? ⟨(ad.add (i.toNat * 5)).block,(ad.add (i.toNat * 5)).off+1,none⟩=some (.int .i64 (rd_T27 xs i).f1)∧w.cell? ⟨(ad.add (i.toNat * 5)).block,(ad.add (i.toNat * 5)).off+2,none⟩=some (.float .f64 (rd_T27 xs i).f2)∧w.cell? ⟨(ad.add (i.toNat * 5)).block,(ad.add (i.toNat * 5)).off+3,none⟩=some (.string (rd_T27 xs i).f3)∧w.cell? ⟨(ad.add (i.toNat * 5)).block,(ad.add (i.toNat * 5)).off+4,none⟩=some (.int .i64 (rd_T27 xs i).f4):=by
  obtain ⟨ad,c,e,_,hK,hc0⟩:=Kd.C_get h z27 i h0 h1;have hc:∀ j u,c[j]? = some u → w.cell? (ad.add (i.toNat * 5+j))=some u:=hc0
  obtain rfl:=k27_open hK
  exact ⟨ad,e,hc 0 _ rfl,by rw [← add_field _ _ 1 (by omega)];exact hc 1 _ rfl,by rw [← add_field _ _ 2 (by omega)];exact hc 2 _ rfl,by rw [← add_field _ _ 3 (by omega)];exact hc 3 _ rfl,by rw [← add_field _ _ 4 (by omega)];exact hc 4 _ rfl⟩

def rd_L8 (xs:List (List S27)) (i:Int):(List S27):=xs.getD i.toNat ([]:List S27)
theorem at_L8 {w:World} {A:Option Addr} {n:Nat} {xs:List (List S27)} (h:Kd.C (Kd.slice 27 k27) w A n xs) (i:Int) (h0:0≤i) (h1:i < n):∃ ad A0 c0,A=some ad∧w.cell? (ad.add i.toNat)=some (.slice A0 (rd_L8 xs i).length c0)∧(rd_L8 xs i).length≤c0∧k27.C w A0 (rd_L8 xs i).length (rd_L8 xs i):=by
  obtain ⟨ad,c,e,_,hK,hc0⟩:=Kd.C_get h ([]:List S27) i h0 h1;have hc:∀ j u,c[j]? = some u → w.cell? (ad.add (i.toNat * 1+j))=some u:=hc0
  obtain ⟨A0,c0,rfl,l0,g0⟩:=hK;exact ⟨ad,A0,c0,e,by have hq:=hc 0 _ rfl;rwa [Nat.mul_one,Nat.add_zero] at hq,l0,g0⟩

/-! #### struct type 138 -/
structure S138 where
  f0:S27
  f1:S27
  f2:Int
def z138:S138:=⟨z27,z27,(0:Int)⟩
def k138:Kd S138:=Kd.iso (Kd.pair k27 (Kd.pair k27 (Kd.int .i64))) (fun x:S138=>(x.f0,x.f1,x.f2))
theorem k138_open {w:World} {x:S138} {cs:List Value} (h:k138.K w x cs):cs=[.int .i64 x.f0.f0,.int .i64 x.f0.f1,.float .f64 x.f0.f2,.string x.f0.f3,.int .i64 x.f0.f4,.int .i64 x.f1.f0,.int .i64 x.f1.f1,.float .f64 x.f1.f2,.string x.f1.f3,.int .i64 x.f1.f4,.int .i64 x.f2]:=by
  obtain ⟨_,_,rfl,s0,⟨_,_,rfl,s5,rfl⟩⟩:=h
  obtain rfl:=k27_open s0
  obtain rfl:=k27_open s5
  exact rfl
theorem k138_openM {w:World} {base:Nat} {ok:Nat → Prop} {x:S138} {cs:List Value} (h:k138.M w base ok x cs):cs=[.int .i64 x.f0.f0,.int .i64 x.f0.f1,.float .f64 x.f0.f2,.string x.f0.f3,.int .i64 x.f0.f4,.int .i64 x.f1.f0,.int .i64 x.f1.f1,.float .f64 x.f1.f2,.string x.f1.f3,.int .i64 x.f1.f4,.int .i64 x.f2]:=by
  obtain ⟨_,_,rfl,s0,⟨_,_,rfl,s5,rfl⟩⟩:=h
  obtain rfl:=k27_openM s0
  obtain rfl:=k27_openM s5
  exact rfl
theorem k138_mk (w:World) (x:S138) :k138.K w x [.int .i64 x.f0.f0,.int .i64 x.f0.f1,.float .f64 x.f0.f2,.string x.f0.f3,.int .i64 x.f0.f4,.int .i64 x.f1.f0,.int .i64 x.f1.f1,.float .f64 x.f1.f2,.string x.f1.f3,.int .i64 x.f1.f4,.int .i64 x.f2]:=⟨[.int .i64 x.f0.f0,.int .i64 x.f0.f1,.float .f64 x.f0.f2,.string x.f0.f3,.int .i64 x.f0.f4],[.int .i64 x.f1.f0,.int .i64 x.f1.f1,.float .f64 x.f1.f2,.string x.f1.f3,.int .i64 x.f1.f4,.int .i64 x.f2],rfl,(k27_mk w x.f0 ),⟨[.int .i64 x.f1.f0,.int .i64 x.f1.f1,.float .f64 x.f1.f2,.string x.f1.f3,.int .i64 x.f1.f4],[.int .i64 x.f2],rfl,(k27_mk w x.f1 ),rfl⟩⟩
theorem k138_mkM (w:World) (base:Nat) (ok:Nat → Prop) (x:S138) :k138.M w base ok x [.int .i64 x.f0.f0,.int .i64 x.f0.f1,.float .f64 x.f0.f2,.string x.f0.f3,.int .i64 x.f0.f4,.int .i64 x.f1.f0,.int .i64 x.f1.f1,.float .f64 x.f1.f2,.string x.f1.f3,.int .i64 x.f1.f4,.int .i64 x.f2]:=⟨[.int .i64 x.f0.f0,.int .i64 x.f0.f1,.float .f64 x.f0.f2,.string x.f0.f3,.int .i64 x.f0.f4],[.int .i64 x.f1.f0,.int .i64 x.f1.f1,.float .f64 x.f1.f2,.string x.f1.f3,.int .i64 x.f1.f4,.int .i64 x.f2],rfl,(k27_mkM w base ok x.f0 ),⟨[.int .i64 x.f1.f0,.int .i64 x.f1.f1,.float .f64 x.f1.f2,.string x.f1.f3,.int .i64 x.f1.f4],[.int .i64 x.f2],rfl,(k27_mkM w base ok x.f1 ),rfl⟩⟩
def rd_T138 (xs:List S138) (i:Int):S138:=xs.getD i.toNat z138
theorem at_T138 {w:World} {A:Option Addr} {n:Nat} {xs:List S138} (h:Kd.C k138 w A n xs) (i:Int) (h0:0≤i) (h1:i < n):∃ ad,A=some ad∧w.cell? (ad.add (i.toNat * 11))=some (.int .i64 (rd_T138 xs i).f0.f0)∧w.cell? ⟨(ad.add (i.toNat * 11)).block,(ad.add (i.toNat * 11)).off+1,none⟩=some (.int .i64 (rd_T138 xs i).f0.f1)∧w.cell? ⟨(ad.add (i.toNat * 11)).block,(ad.add (i.toNat * 11)).off+2,none⟩=some (.float .f64 (rd_T138 xs i).f0.f2)∧w.cell? ⟨(ad.add (i.toNat * 11)).block,(ad.add (i.toNat * 11)).off+3,none⟩=some (.string (rd_T138 xs i).f0.f3)∧w.cell? ⟨(ad.add (i.toNat * 11)).block,(ad.add (i.toNat * 11)).off+4,none⟩=some (.int .i64 (rd_T138 xs i).f0.f4)∧w.cell? ⟨(ad.add (i.toNat * 11)).block,(ad.add (i.toNat * 11)).off+5,none⟩=some (.int .i64 (rd_T138 xs i).f1.f0)∧w.cell? ⟨(ad.add (i.toNat * 11)).block,(ad.add (i.toNat * 11)).off+6,none⟩=some (.int .i64 (rd_T138 xs i).f1.f1)∧w.cell? ⟨(ad.add (i.toNat * 11)).block,(ad.add (i.toNat * 11)).off+7,none⟩=some (.float .f64 (rd_T138 xs i).f1.f2)∧w.cell? ⟨(ad.add (i.toNat * 11)).block,(ad.add (i.toNat * 11)).off+8,none⟩=some (.string (rd_T138 xs i).f1.f3)∧w.cell? ⟨(ad.add (i.toNat * 11)).block,(ad.add (i.toNat * 11)).off+9,none⟩=some (.int .i64 (rd_T138 xs i).f1.f4)∧w.cell? ⟨(ad.add (i.toNat * 11)).block,(ad.add (i.toNat * 11)).off+10,none⟩=some (.int .i64 (rd_T138 xs i).f2):=by
  obtain ⟨ad,c,e,_,hK,hc0⟩:=Kd.C_get h z138 i h0 h1;have hc:∀ j u,c[j]? = some u → w.cell? (ad.add (i.toNat * 11+j))=some u:=hc0
  obtain rfl:=k138_open hK
  exact ⟨ad,e,hc 0 _ rfl,by rw [← add_field _ _ 1 (by omega)];exact hc 1 _ rfl,by rw [← add_field _ _ 2 (by omega)];exact hc 2 _ rfl,by rw [← add_field _ _ 3 (by omega)];exact hc 3 _ rfl,by rw [← add_field _ _ 4 (by omega)];exact hc 4 _ rfl,by rw [← add_field _ _ 5 (by omega)];exact hc 5 _ rfl,by rw [← add_field _ _ 6 (by omega)];exact hc 6 _ rfl,by rw [← add_field _ _ 7 (by omega)];exact hc 7 _ rfl,by rw [← add_field _ _ 8 (by omega)];exact hc 8 _ rfl,by rw [← add_field _ _ 9 (by omega)];exact hc 9 _ rfl,by rw [← add_field _ _ 10 (by omega)];exact hc 10 _ rfl⟩

def rd_L10 (xs:List (List S138)) (i:Int):(List S138):=xs.getD i.toNat ([]:List S138)
theorem at_L10 {w:World} {A:Option Addr} {n:Nat} {xs:List (List S138)} (h:Kd.C (Kd.slice 138 k138) w A n xs) (i:Int) (h0:0≤i) (h1:i < n):∃ ad A0 c0,A=some ad∧w.cell? (ad.add i.toNat)=some (.slice A0 (rd_L10 xs i).length c0)∧(rd_L10 xs i).length≤c0∧k138.C w A0 (rd_L10 xs i).length (rd_L10 xs i):=by
  obtain ⟨ad,c,e,_,hK,hc0⟩:=Kd.C_get h ([]:List S138) i h0 h1;have hc:∀ j u,c[j]? = some u → w.cell? (ad.add (i.toNat * 1+j))=some u:=hc0
  obtain ⟨A0,c0,rfl,l0,g0⟩:=hK;exact ⟨ad,A0,c0,e,by have hq:=hc 0 _ rfl;rwa [Nat.mul_one,Nat.add_zero] at hq,l0,g0⟩

def rd_L11 (xs:List (List Int)) (i:Int):(List Int):=xs.getD i.toNat ([]:List Int)
theorem at_L11 {w:World} {A:Option Addr} {n:Nat} {xs:List (List Int)} (h:Kd.C (Kd.slice 3 (Kd.int .i64)) w A n xs) (i:Int) (h0:0≤i) (h1:i < n):∃ ad A0 c0,A=some ad∧w.cell? (ad.add i.toNat)=some (.slice A0 (rd_L11 xs i).length c0)∧(rd_L11 xs i).length≤c0∧(Kd.int .i64).C w A0 (rd_L11 xs i).length (rd_L11 xs i):=by
  obtain ⟨ad,c,e,_,hK,hc0⟩:=Kd.C_get h ([]:List Int) i h0 h1;have hc:∀ j u,c[j]? = some u → w.cell? (ad.add (i.toNat * 1+j))=some u:=hc0
  obtain ⟨A0,c0,rfl,l0,g0⟩:=hK;exact ⟨ad,A0,c0,e,by have hq:=hc 0 _ rfl;rwa [Nat.mul_one,Nat.add_zero] at hq,l0,g0⟩

/-! #### struct type 113 -/
structure S113 where
  f0:(List S138)
  f1:(List Int)
  f2:(List Int)
  f3:Int
  f4:Int
  f5:Int
def z113:S113:=⟨([]:List S138),([]:List Int),([]:List Int),(0:Int),(0:Int),(0:Int)⟩
def k113:Kd S113:=Kd.iso (Kd.pair (Kd.slice 138 k138) (Kd.pair (Kd.slice 3 (Kd.int .i64)) (Kd.pair (Kd.slice 3 (Kd.int .i64)) (Kd.pair (Kd.int .i64) (Kd.pair (Kd.int .i64) (Kd.int .i64)))))) (fun x:S113=>(x.f0,x.f1,x.f2,x.f3,x.f4,x.f5))
theorem k113_open {w:World} {x:S113} {cs:List Value} (h:k113.K w x cs):∃ A0 c0 A1 c1 A2 c2,cs=[.slice A0 x.f0.length c0,.slice A1 x.f1.length c1,.slice A2 x.f2.length c2,.int .i64 x.f3,.int .i64 x.f4,.int .i64 x.f5]∧x.f0.length≤c0∧k138.C w A0 x.f0.length x.f0∧x.f1.length≤c1∧(Kd.int .i64).C w A1 x.f1.length x.f1∧x.f2.length≤c2∧(Kd.int .i64).C w A2 x.f2.length x.f2:=by
  obtain ⟨_,_,rfl,⟨A0,c0,rfl,l0,g0⟩,⟨_,_,rfl,⟨A1,c1,rfl,l1,g1⟩,⟨_,_,rfl,⟨A2,c2,rfl,l2,g2⟩,⟨_,_,rfl,rfl,⟨_,_,rfl,rfl,rfl⟩⟩⟩⟩⟩:=h;exact ⟨A0,c0,A1,c1,A2,c2,rfl,l0,g0,l1,g1,l2,g2⟩
theorem k113_openM {w:World} {base:Nat} {ok:Nat → Prop} {x:S113} {cs:List Value} (h:k113.M w base ok x cs):∃ v0 v1 v2,cs=[v0,v1,v2,.int .i64 x.f3,.int .i64 x.f4,.int .i64 x.f5]∧k138.R 138 w base ok v0 x.f0∧(Kd.int .i64).R 3 w base ok v1 x.f1∧(Kd.int .i64).R 3 w base ok v2 x.f2:=by
  obtain ⟨_,_,rfl,⟨v0,rfl,g0⟩,⟨_,_,rfl,⟨v1,rfl,g1⟩,⟨_,_,rfl,⟨v2,rfl,g2⟩,⟨_,_,rfl,rfl,⟨_,_,rfl,rfl,rfl⟩⟩⟩⟩⟩:=h;exact ⟨v0,v1,v2,rfl,g0,g1,g2⟩
theorem k113_mk (w:World) (x:S113) {A0:Option Addr} {c0:Nat} (l0:x.f0.length≤c0) (g0:k138.C w A0 x.f0.length x.f0) {A1:Option Addr} {c1:Nat} (l1:x.f1.length≤c1) (g1:(Kd.int .i64).C w A1 x.f1.length x.f1) {A2:Option Addr} {c2:Nat} (l2:x.f2.length≤c2) (g2:(Kd.int .i64).C w A2 x.f2.length x.f2):k113.K w x [.slice A0 x.f0.length c0,.slice A1 x.f1.length c1,.slice A2 x.f2.length c2,.int .i64 x.f3,.int .i64 x.f4,.int .i64 x.f5]:=⟨[.slice A0 x.f0.length c0],[.slice A1 x.f1.length c1,.slice A2 x.f2.length c2,.int .i64 x.f3,.int .i64 x.f4,.int .i64 x.f5],rfl,⟨A0,c0,rfl,l0,g0⟩,⟨[.slice A1 x.f1.length c1],[.slice A2 x.f2.length c2,.int .i64 x.f3,.int .i64 x.f4,.int .i64 x.f5],rfl,⟨A1,c1,rfl,l1,g1⟩,⟨[.slice A2 x.f2.length c2],[.int .i64 x.f3,.int .i64 x.f4,.int .i64 x.f5],rfl,⟨A2,c2,rfl,l2,g2⟩,⟨[.int .i64 x.f3],[.int .i64 x.f4,.int .i64 x.f5],rfl,rfl,⟨[.int .i64 x.f4],[.int .i64 x.f5],rfl,rfl,rfl⟩⟩⟩⟩⟩
theorem k113_mkM (w:World) (base:Nat) (ok:Nat → Prop) (x:S113) {v0:Value} (g0:k138.R 138 w base ok v0 x.f0) {v1:Value} (g1:(Kd.int .i64).R 3 w base ok v1 x.f1) {v2:Value} (g2:(Kd.int .i64).R 3 w base ok v2 x.f2):k113.M w base ok x [v0,v1,v2,.int .i64 x.f3,.int .i64 x.f4,.int .i64 x.f5]:=⟨[v0],[v1,v2,.int .i64 x.f3,.int .i64 x.f4,.int .i64 x.f5],rfl,⟨v0,rfl,g0⟩,⟨[v1],[v2,.int .i64 x.f3,.int .i64 x.f4,.int .i64 x.f5],rfl,⟨v1,rfl,g1⟩,⟨[v2],[.int .i64 x.f3,.int .i64 x.f4,.int .i64 x.f5],rfl,⟨v2,rfl,g2⟩,⟨[.int .i64 x.f3],[.int .i64 x.f4,.int .i64 x.f5],rfl,rfl,⟨[.int .i64 x.f4],[.int .i64 x.f5],rfl,rfl,rfl⟩⟩⟩⟩⟩
def rd_T113 (xs:List S113) (i:Int):S113:=xs.getD i.toNat z113
theorem at_T113 {w:World} {A:Option Addr} {n:Nat} {xs:List S113} (h:Kd.C k113 w A n xs) (i:Int) (h0:0≤i) (h1:i < n):∃ ad A0 c0 A1 c1 A2 c2,A=some ad∧w.cell? (ad.add (i.toNat * 6))=some (.slice A0 (rd_T113 xs i).f0.length c0)∧w.cell? ⟨(ad.add (i.toNat * 6)).block,(ad.add (i.toNat * 6)).off+1,none⟩=some (.slice A1 (rd_T113 xs i).f1.length c1)∧w.cell? ⟨(ad.add (i.toNat * 6)).block,(ad.add (i.toNat * 6)).off+2,none⟩=some (.slice A2 (rd_T113 xs i).f2.length c2)∧w.cell? ⟨(ad.add (i.toNat * 6)).block,(ad.add (i.toNat * 6)).off+3,none⟩=some (.int .i64 (rd_T113 xs i).f3)∧w.cell? ⟨(ad.add (i.toNat * 6)).block,(ad.add (i.toNat * 6)).off+4,none⟩=some (.int .i64 (rd_T113 xs i).f4)∧w.cell? ⟨(ad.add (i.toNat * 6)).block,(ad.add (i.toNat * 6)).off+5,none⟩=some (.int .i64 (rd_T113 xs i).f5)∧(rd_T113 xs i).f0.length≤c0∧k138.C w A0 (rd_T113 xs i).f0.length (rd_T113 xs i).f0∧(rd_T113 xs i).f1.length≤c1∧(Kd.int .i64).C w A1 (rd_T113 xs i).f1.length (rd_T113 xs i).f1∧(rd_T113 xs i).f2.length≤c2∧(Kd.int .i64).C w A2 (rd_T113 xs i).f2.length (rd_T113 xs i).f2:=by
  obtain ⟨ad,c,e,_,hK,hc0⟩:=Kd.C_get h z113 i h0 h1;have hc:∀ j u,c[j]? = some u → w.cell? (ad.add (i.toNat * 6+j))=some u:=hc0
  obtain ⟨A0,c0,A1,c1,A2,c2,rfl,l0,g0,l1,g1,l2,g2⟩:=k113_open hK;exact ⟨ad,A0,c0,A1,c1,A2,c2,e,hc 0 _ rfl,by rw [← add_field _ _ 1 (by omega)];exact hc 1 _ rfl,by rw [← add_field _ _ 2 (by omega)];exact hc 2 _ rfl,by rw [← add_field _ _ 3 (by omega)];exact hc 3 _ rfl,by rw [← add_field _ _ 4 (by omega)];exact hc 4 _ rfl,by rw [← add_field _ _ 5 (by omega)];exact hc 5 _ rfl,l0,g0,l1,g1,l2,g2⟩

/-! #### struct type 115 -/
structure S115 where
  f0:Int
  f1:(List S27)
  f2:S113
def z115:S115:=⟨(0:Int),([]:List S27),z113⟩
def k115:Kd S115:=Kd.iso (Kd.pair (Kd.int .i64) (Kd.pair (Kd.slice 27 k27) k113)) (fun x:S115=>(x.f0,x.f1,x.f2))
theorem k115_open {w:World} {x:S115} {cs:List Value} (h:k115.K w x cs):∃ A1 c1 A2 c2 A3 c3 A4 c4,cs=[.int .i64 x.f0,.slice A1 x.f1.length c1,.slice A2 x.f2.f0.length c2,.slice A3 x.f2.f1.length c3,.slice A4 x.f2.f2.length c4,.int .i64 x.f2.f3,.int .i64 x.f2.f4,.int .i64 x.f2.f5]∧x.f1.length≤c1∧k27.C w A1 x.f1.length x.f1∧x.f2.f0.length≤c2∧k138.C w A2 x.f2.f0.length x.f2.f0∧x.f2.f1.length≤c3∧(Kd.int .i64).C w A3 x.f2.f1.length x.f2.f1∧x.f2.f2.length≤c4∧(Kd.int .i64).C w A4 x.f2.f2.length x.f2.f2:=by
  obtain ⟨_,_,rfl,rfl,⟨_,_,rfl,⟨A1,c1,rfl,l1,g1⟩,s2⟩⟩:=h;obtain ⟨A2,c2,A3,c3,A4,c4,rfl,l2,g2,l3,g3,l4,g4⟩:=k113_open s2;exact ⟨A1,c1,A2,c2,A3,c3,A4,c4,rfl,l1,g1,l2,g2,l3,g3,l4,g4⟩
theorem k115_openM {w:World} {base:Nat} {ok:Nat → Prop} {x:S115} {cs:List Value} (h:k115.M w base ok x cs):∃ v1 v2 v3 v4,cs=[.int .i64 x.f0,v1,v2,v3,v4,.int .i64 x.f2.f3,.int .i64 x.f2.f4,.int .i64 x.f2.f5]∧k27.R 27 w base ok v1 x.f1∧k138.R 138 w base ok v2 x.f2.f0∧(Kd.int .i64).R 3 w base ok v3 x.f2.f1∧(Kd.int .i64).R 3 w base ok v4 x.f2.f2:=by
  obtain ⟨_,_,rfl,rfl,⟨_,_,rfl,⟨v1,rfl,g1⟩,s2⟩⟩:=h;obtain ⟨v2,v3,v4,rfl,g2,g3,g4⟩:=k113_openM s2;exact ⟨v1,v2,v3,v4,rfl,g1,g2,g3,g4⟩
theorem k115_mk (w:World) (x:S115) {A1:Option Addr} {c1:Nat} (l1:x.f1.length≤c1) (g1:k27.C w A1 x.f1.length x.f1) {A2:Option Addr} {c2:Nat} (l2:x.f2.f0.length≤c2) (g2:k138.C w A2 x.f2.f0.length x.f2.f0) {A3:Option Addr} {c3:Nat} (l3:x.f2.f1.length≤c3) (g3:(Kd.int .i64).C w A3 x.f2.f1.length x.f2.f1) {A4:Option Addr} {c4:Nat} (l4:x.f2.f2.length≤c4) (g4:(Kd.int .i64).C w A4 x.f2.f2.length x.f2.f2):k115.K w x [.int .i64 x.f0,.slice A1 x.f1.length c1,.slice A2 x.f2.f0.length c2,.slice A3 x.f2.f1.length c3,.slice A4 x.f2.f2.length c4,.int .i64 x.f2.f3,.int .i64 x.f2.f4,.int .i64 x.f2.f5]:=⟨[.int .i64 x.f0],[.slice A1 x.f1.length c1,.slice A2 x.f2.f0.length c2,.slice A3 x.f2.f1.length c3,.slice A4 x.f2.f2.length c4,.int .i64 x.f2.f3,.int .i64 x.f2.f4,.int .i64 x.f2.f5],rfl,rfl,⟨[.slice A1 x.f1.length c1],[.slice A2 x.f2.f0.length c2,.slice A3 x.f2.f1.length c3,.slice A4 x.f2.f2.length c4,.int .i64 x.f2.f3,.int .i64 x.f2.f4,.int .i64 x.f2.f5],rfl,⟨A1,c1,rfl,l1,g1⟩,(k113_mk w x.f2 l2 g2 l3 g3 l4 g4)⟩⟩
theorem k115_mkM (w:World) (base:Nat) (ok:Nat → Prop) (x:S115) {v1:Value} (g1:k27.R 27 w base ok v1 x.f1) {v2:Value} (g2:k138.R 138 w base ok v2 x.f2.f0) {v3:Value} (g3:(Kd.int .i64).R 3 w base ok v3 x.f2.f1) {v4:Value} (g4:(Kd.int .i64).R 3 w base ok v4 x.f2.f2):k115.M w base ok x [.int .i64 x.f0,v1,v2,v3,v4,.int .i64 x.f2.f3,.int .i64 x.f2.f4,.int .i64 x.f2.f5]:=⟨[.int .i64 x.f0],[v1,v2,v3,v4,.int .i64 x.f2.f3,.int .i64 x.f2.f4,.int .i64 x.f2.f5],rfl,rfl,⟨[v1],[v2,v3,v4,.int .i64 x.f2.f3,.int .i64 x.f2.f4,.int .i64 x.f2.f5],rfl,⟨v1,rfl,g1⟩,(k113_mkM w base ok x.f2 g2 g3 g4)⟩⟩
def rd_T115 (xs:List S115) (i:Int):S115:=xs.getD i.toNat z115
theorem at_T115 {w:World} {A:Option Addr} {n:Nat} {xs:List S115} (h:Kd.C k115 w A n xs) (i:Int) (h0:0≤i) (h1:i < n):∃ ad A1 c1 A2 c2 A3 c3 A4 c4,A=some ad∧w.cell? (ad.add (i.toNat * 8))=some (.int .i64 (rd_T115 xs i).f0)∧w.cell? ⟨(ad.add (i.toNat * 8)).block,(ad.add (i.toNat * 8)).off+1,none⟩=some (.slice A1 (rd_T115 xs i).f1.length c1)∧w.cell? ⟨(ad.add (i.toNat * 8)).block,(ad.add (i.toNat * 8)).off+2,none⟩=some (.slice A2 (rd_T115 xs i).f2.f0.length c2)∧w.cell? ⟨(ad.add (i.toNat * 8)).block,(ad.add (i.toNat * 8)).off+3,none⟩=some (.slice A3 (rd_T115 xs i).f2.f1.length c3)∧w.cell? ⟨(ad.add (i.toNat * 8)).block,(ad.add (i.toNat * 8)).off+4,none⟩=some (.slice A4 (rd_T115 xs i).f2.f2.length c4)∧w.cell? ⟨(ad.add (i.toNat * 8)).block,(ad.add (i.toNat * 8)).off+5,none⟩=some (.int .i64 (rd_T115 xs i).f2.f3)∧w.cell? ⟨(ad.add (i.toNat * 8)).block,(ad.add (i.toNat * 8)).off+6,none⟩=some (.int .i64 (rd_T115 xs i).f2.f4)∧w.cell? ⟨(ad.add (i.toNat * 8)).block,(ad.add (i.toNat * 8)).off+7,none⟩=some (.int .i64 (rd_T115 xs i).f2.f5)∧(rd_T115 xs i).f1.length≤c1∧k27.C w A1 (rd_T115 xs i).f1.length (rd_T115 xs i).f1∧(rd_T115 xs i).f2.f0.length≤c2∧k138.C w A2 (rd_T115 xs i).f2.f0.length (rd_T115 xs i).f2.f0∧(rd_T115 xs i).f2.f1.length≤c3∧(Kd.int .i64).C w A3 (rd_T115 xs i).f2.f1.length (rd_T115 xs i).f2.f1∧(rd_T115 xs i).f2.f2.length≤c4∧(Kd.int .i64).C w A4 (rd_T115 xs i).f2.f2.length (rd_T115 xs i).f2.f2:=by
  obtain ⟨ad,c,e,_,hK,hc0⟩:=Kd.C_get h z115 i h0 h1;have hc:∀ j u,c[j]? = some u → w.cell? (ad.add (i.toNat * 8+j))=some u:=hc0
  obtain ⟨A1,c1,A2,c2,A3,c3,A4,c4,rfl,l1,g1,l2,g2,l3,g3,l4,g4⟩:=k115_open hK;exact ⟨ad,A1,c1,A2,c2,A3,c3,A4,c4,e,hc 0 _ rfl,by rw [← add_field _ _ 1 (by omega)];exact hc 1 _ rfl,by rw [← add_field _ _ 2 (by omega)];exact hc 2 _ rfl,by rw [← add_field _ _ 3 (by omega)];exact hc 3 _ rfl,by rw [← add_field _ _ 4 (by omega)];exact hc 4 _ rfl,by rw [← add_field _ _ 5 (by omega)];exact hc 5 _ rfl,by rw [← add_field _ _ 6 (by omega)];exact hc 6 _ rfl,by rw [← add_field _ _ 7 (by omega)];exact hc 7 _ rfl,l1,g1,l2,g2,l3,g3,l4,g4⟩

/-! #### struct type 118 -/
structure S118 where
  f0:ByteArray
  f1:Int
  f2:Int
  f3:Int
  f4:Int
def z118:S118:=⟨(⟨#[]⟩:ByteArray),(0:Int),(0:Int),(0:Int),(0:Int)⟩
def k118:Kd S118:=Kd.iso (Kd.pair Kd.string (Kd.pair (Kd.int .i64) (Kd.pair (Kd.int .i64) (Kd.pair (Kd.int .i64) (Kd.int .i64))))) (fun x:S118=>(x.f0,x.f1,x.f2,x.f3,x.f4))
theorem k118_open {w:World} {x:S118} {cs:List Value} (h:k118.K w x cs):cs=[.string x.f0,.int .i64 x.f1,.int .i64 x.f2,.int .i64 x.f3,.int .i64 x.f4]:=by
  obtain ⟨_,_,rfl,rfl,⟨_,_,rfl,rfl,⟨_,_,rfl,rfl,⟨_,_,rfl,rfl,rfl⟩⟩⟩⟩:=h;exact rfl
theorem k118_openM {w:World} {base:Nat} {ok:Nat → Prop} {x:S118} {cs:List Value} (h:k118.M w base ok x cs):cs=[.string x.f0,.int .i64 x.f1,.int .i64 x.f2,.int .i64 x.f3,.int .i64 x.f4]:=by
  obtain ⟨_,_,rfl,rfl,⟨_,_,rfl,rfl,⟨_,_,rfl,rfl,⟨_,_,rfl,rfl,rfl⟩⟩⟩⟩:=h;exact rfl
theorem k118_mk (w:World) (x:S118) :k118.K w x [.string x.f0,.int .i64 x.f1,.int .i64 x.f2,.int .i64 x.f3,.int .i64 x.f4]:=⟨[.string x.f0],[.int .i64 x.f1,.int .i64 x.f2,.int .i64 x.f3,.int .i64 x.f4],rfl,rfl,⟨[.int .i64 x.f1],[.int .i64 x.f2,.int .i64 x.f3,.int .i64 x.f4],rfl,rfl,⟨[.int .i64 x.f2],[.int .i64 x.f3,.int .i64 x.f4],rfl,rfl,⟨[.int .i64 x.f3],[.int .i64 x.f4],rfl,rfl,rfl⟩⟩⟩⟩
theorem k118_mkM (w:World) (base:Nat) (ok:Nat → Prop) (x:S118) :k118.M w base ok x [.string x.f0,.int .i64 x.f1,.int .i64 x.f2,.int .i64 x.f3,.int .i64 x.f4]:=⟨[.string x.f0],[.int .i64 x.f1,.int .i64 x.f2,.int .i64 x.f3,.int .i64 x.f4],rfl,rfl,⟨[.int .i64 x.f1],[.int .i64 x.f2,.int .i64 x.f3,.int .i64 x.f4],rfl,rfl,⟨[.int .i64 x.f2],[.int .i64 x.f3,.int .i64 x.f4],rfl,rfl,⟨[.int .i64 x.f3],[.int .i64 x.f4],rfl,rfl,rfl⟩⟩⟩⟩
def rd_T118 (xs:List S118) (i:Int):S118:=xs.getD i.toNat z118
theorem at_T118 {w:World} {A:Option Addr} {n:Nat} {xs:List S118} (h:Kd.C k118 w A n xs) (i:Int) (h0:0≤i) (h1:i < n):∃ ad,A=some ad∧w.cell? (ad.add (i.toNat * 5))=some (.string (rd_T118 xs i).f0)∧w.cell? ⟨(ad.add (i.toNat * 5)).block,(ad.add (i.toNat * 5)).off+1,none⟩=some (.int .i64 (rd_T118 xs i).f1)∧w.cell? ⟨(ad.add (i.toNat * 5)).block,(ad.add (i.toNat * 5)).off+2,none⟩=some (.int .i64 (rd_T118 xs i).f2)∧w.cell? ⟨(ad.add (i.toNat * 5)).block,(ad.add (i.toNat * 5)).off+3,none⟩=some (.int .i64 (rd_T118 xs i).f3)∧w.cell? ⟨(ad.add (i.toNat * 5)).block,(ad.add (i.toNat * 5)).off+4,none⟩=some (.int .i64 (rd_T118 xs i).f4):=by
  obtain ⟨ad,c,e,_,hK,hc0⟩:=Kd.C_get h z118 i h0 h1;have hc:∀ j u,c[j]? = some u → w.cell? (ad.add (i.toNat * 5+j))=some u:=hc0
  obtain rfl:=k118_open hK
  exact ⟨ad,e,hc 0 _ rfl,by rw [← add_field _ _ 1 (by omega)];exact hc 1 _ rfl,by rw [← add_field _ _ 2 (by omega)];exact hc 2 _ rfl,by rw [← add_field _ _ 3 (by omega)];exact hc 3 _ rfl,by rw [← add_field _ _ 4 (by omega)];exact hc 4 _ rfl⟩

def rd_L16 (xs:List (List Int)) (i:Int):(List Int):=xs.getD i.toNat ([]:List Int)
theorem at_L16 {w:World} {A:Option Addr} {n:Nat} {xs:List (List Int)} (h:Kd.C (Kd.slice 5 (Kd.int .u8)) w A n xs) (i:Int) (h0:0≤i) (h1:i < n):∃ ad A0 c0,A=some ad∧w.cell? (ad.add i.toNat)=some (.slice A0 (rd_L16 xs i).length c0)∧(rd_L16 xs i).length≤c0∧(Kd.int .u8).C w A0 (rd_L16 xs i).length (rd_L16 xs i):=by
  obtain ⟨ad,c,e,_,hK,hc0⟩:=Kd.C_get h ([]:List Int) i h0 h1;have hc:∀ j u,c[j]? = some u → w.cell? (ad.add (i.toNat * 1+j))=some u:=hc0
  obtain ⟨A0,c0,rfl,l0,g0⟩:=hK;exact ⟨ad,A0,c0,e,by have hq:=hc 0 _ rfl;rwa [Nat.mul_one,Nat.add_zero] at hq,l0,g0⟩

/-! #### struct type 64 -/
structure S64 where
  f0:S36
  f1:Int
def z64:S64:=⟨z36,(0:Int)⟩
def k64:Kd S64:=Kd.iso (Kd.pair k36 (Kd.int .i64)) (fun x:S64=>(x.f0,x.f1))
theorem k64_open {w:World} {x:S64} {cs:List Value} (h:k64.K w x cs):∃ A0 c0,cs=[.slice A0 x.f0.f0.length c0,.int .i64 x.f1]∧x.f0.f0.length≤c0∧k75.C w A0 x.f0.f0.length x.f0.f0:=by
  obtain ⟨_,_,rfl,s0,rfl⟩:=h;obtain ⟨A0,c0,rfl,l0,g0⟩:=k36_open s0;exact ⟨A0,c0,rfl,l0,g0⟩
theorem k64_openM {w:World} {base:Nat} {ok:Nat → Prop} {x:S64} {cs:List Value} (h:k64.M w base ok x cs):∃ v0,cs=[v0,.int .i64 x.f1]∧k75.R 75 w base ok v0 x.f0.f0:=by
  obtain ⟨_,_,rfl,s0,rfl⟩:=h;obtain ⟨v0,rfl,g0⟩:=k36_openM s0;exact ⟨v0,rfl,g0⟩
theorem k64_mk (w:World) (x:S64) {A0:Option Addr} {c0:Nat} (l0:x.f0.f0.length≤c0) (g0:k75.C w A0 x.f0.f0.length x.f0.f0):k64.K w x [.slice A0 x.f0.f0.length c0,.int .i64 x.f1]:=⟨[.slice A0 x.f0.f0.length c0],[.int .i64 x.f1],rfl,(k36_mk w x.f0 l0 g0),rfl⟩
theorem k64_mkM (w:World) (base:Nat) (ok:Nat → Prop) (x:S64) {v0:Value} (g0:k75.R 75 w base ok v0 x.f0.f0):k64.M w base ok x [v0,.int .i64 x.f1]:=⟨[v0],[.int .i64 x.f1],rfl,(k36_mkM w base ok x.f0 g0),rfl⟩
def rd_T64 (xs:List S64) (i:Int):S64:=xs.getD i.toNat z64
theorem at_T64 {w:World} {A:Option Addr} {n:Nat} {xs:List S64} (h:Kd.C k64 w A n xs) (i:Int) (h0:0≤i) (h1:i < n):∃ ad A0 c0,A=some ad∧w.cell? (ad.add (i.toNat * 2))=some (.slice A0 (rd_T64 xs i).f0.f0.length c0)∧w.cell? ⟨(ad.add (i.toNat * 2)).block,(ad.add (i.toNat * 2)).off+1,none⟩=some (.int .i64 (rd_T64 xs i).f1)∧(rd_T64 xs i).f0.f0.length≤c0∧k75.C w A0 (rd_T64 xs i).f0.f0.length (rd_T64 xs i).f0.f0:=by
  obtain ⟨ad,c,e,_,hK,hc0⟩:=Kd.C_get h z64 i h0 h1;have hc:∀ j u,c[j]? = some u → w.cell? (ad.add (i.toNat * 2+j))=some u:=hc0
  obtain ⟨A0,c0,rfl,l0,g0⟩:=k64_open hK;exact ⟨ad,A0,c0,e,hc 0 _ rfl,by rw [← add_field _ _ 1 (by omega)];exact hc 1 _ rfl,l0,g0⟩

theorem eqA75 (d:Nat) (w:World) (x0 y0:Int) (x1 y1:ByteArray) (x2 y2:Int) :
    (Op.equalIn (d+2) 75 (.agg #[.int .i64 x0,.string x1,.int .i64 x2]) (.agg #[.int .i64 y0,.string y1,.int .i64 y2])).run Try.prog w=.ok (x0==y0 && (x1.toList==y1.toList && (x2==y2))) w:=by
  refine eqA_of Try.underlying75 (by kernel_rfl) ?_;refine eqf_cons (by rfl) (by go_simp;rfl) (by go_simp;rfl) (by go_simp) ?_;refine eqf_cons (by rfl) (by go_simp;rfl) (by go_simp;rfl) (by go_simp) ?_;exact eqf_last (by rfl) (by go_simp;rfl) (by go_simp;rfl) (by go_simp)
/-- A state of type 97 at block g of W; what its slices lead to came in by w0. -/
def I97 (w0 W:World) (g:Nat) (f0:List Int) (f1:Int) (f2:Int):Prop:=∃ A0 c0,W.heap[g]? = some (.cells #[.slice A0 f0.length c0,.int .i64 f1,.int .u64 f2] 97 (0,0))∧w0.heap.size≤g∧Kd.C (Kd.int .u8) w0 A0 f0.length f0
theorem I97.grown {w0 W:World} {g:Nat} {f0:List Int} {f1:Int} {f2:Int} {W1:World} {row:Option Nat} (h:I97 w0 W g f0 f1 f2) (hw:W.grownBy W1 row) (hne:some g≠row):I97 w0 W1 g f0 f1 f2:=by
  obtain ⟨A0,c0,hb,hg,hr0⟩:=h;exact ⟨A0,c0,blk_grown hb hw hne,hg,hr0⟩
theorem I97.own_neN {w0 W:World} {g:Nat} {f0:List Int} {f1:Int} {f2:Int} {α:Type} {d:Kd α} {e:Nat} {base:Nat} {ok:Nat → Prop} {v:Value} {xs:List α} (h:I97 w0 W g f0 f1 f2) (ho:Kd.N d e W base ok v xs) (ht:e≠97):some g≠v.ownBlock:=by
  obtain ⟨A0,c0,hb,hg,hr0⟩:=h;exact Kd.N_ne ho hb ht
theorem I97.fresh {w0 W:World} {g:Nat} {f0:List Int} {f1:Int} {f2:Int} (h:I97 w0 W g f0 f1 f2):∀ k,W.heap.size≤k → k≠g:=by
  obtain ⟨A0,c0,hb,hg,hr0⟩:=h;exact Kd.freshB hb
theorem I97.kept {w0 W:World} {g:Nat} {f0:List Int} {f1:Int} {f2:Int} {W1:World} {S:Nat → Prop} (h:I97 w0 W g f0 f1 f2) (hk:Kept W W1 S) (hne:¬ S g):I97 w0 W1 g f0 f1 f2:=by
  obtain ⟨A0,c0,hb,hg,hr0⟩:=h;exact ⟨A0,c0,bkK hb hk hne,hg,hr0⟩
theorem I97.below {w0 W:World} {g:Nat} {f0:List Int} {f1:Int} {f2:Int} {W1:World} (h:I97 w0 W g f0 f1 f2) (hw:Below W.heap.size W W1):I97 w0 W1 g f0 f1 f2:=h.grown (grown_of_below hw none) (by simp)
theorem I97.alloc {w0 W:World} {g:Nat} {f0:List Int} {f1:Int} {f2:Int} (h:I97 w0 W g f0 f1 f2) (o:Obj):I97 w0 (W.alloc o) g f0 f1 f2:=h.below (bal (Below.refl _ _) o)
theorem I97.drewN {w0 W:World} {g:Nat} {f0:List Int} {f1:Int} {f2:Int} (h:I97 w0 W g f0 f1 f2) (m:Nat):I97 w0 (W.drewN m) g f0 f1 f2:=h
theorem I97.drew {w0 W:World} {g:Nat} {f0:List Int} {f1:Int} {f2:Int} (h:I97 w0 W g f0 f1 f2):I97 w0 W.drew g f0 f1 f2:=h
theorem I97.at_ {w0 W:World} {g:Nat} {f0:List Int} {f1:Int} {f2:Int} {w':World} {m:Nat} (hq:W.drewN m=w') (h:I97 w0 W g f0 f1 f2):I97 w0 w' g f0 f1 f2:=by subst hq;exact I97.drewN h m
theorem I97.apart {w0 W:World} {g:Nat} {f0:List Int} {f1:Int} {f2:Int} {α:Type} {d:Kd α} {e:Nat} {base:Nat} {ok:Nat → Prop} {v:Value} {xs:List α} (h:I97 w0 W g f0 f1 f2) (ho:d.R e W base ok v xs) (ht:∀ q,q ∈ e :: d.E → q≠97):d.R e W base (fun k=>ok k∧k≠g) v xs:=by
  obtain ⟨A0,c0,hb,hg,hr0⟩:=h;exact Kd.R_types ho hb ht
theorem I97.own_ne {w0 W:World} {g:Nat} {f0:List Int} {f1:Int} {f2:Int} {α:Type} {d:Kd α} {e:Nat} {base:Nat} {ok:Nat → Prop} {v:Value} {xs:List α} (h:I97 w0 W g f0 f1 f2) (ho:d.R e W base ok v xs) (ht:e≠97):some g≠v.ownBlock:=by
  obtain ⟨A0,c0,hb,hg,hr0⟩:=h;exact Kd.R_ne ho hb ht
theorem I97.apartQ {w0 W:World} {g:Nat} {f0:List Int} {f1:Int} {f2:Int} {α:Type} {d:Kd α} {e:Nat} {base:Nat} {ok:Nat → Prop} {v:Value} {xs:List α} (h:I97 w0 W g f0 f1 f2) (ho:d.Q e W base ok v xs) (ht:∀ q,q ∈ e :: d.E → q≠97):d.Q e W base (fun k=>ok k∧k≠g) v xs:=by
  obtain ⟨A0,c0,hb,hg,hr0⟩:=h;exact Kd.Q_types ho hb ht
theorem I97.own_neQ {w0 W:World} {g:Nat} {f0:List Int} {f1:Int} {f2:Int} {α:Type} {d:Kd α} {e:Nat} {base:Nat} {ok:Nat → Prop} {v:Value} {xs:List α} (h:I97 w0 W g f0 f1 f2) (ho:d.Q e W base ok v xs) (ht:e≠97):some g≠v.ownBlock:=by
  obtain ⟨A0,c0,hb,hg,hr0⟩:=h;exact Kd.Q_ne ho hb ht
theorem I97.apartS {w0 W:World} {g:Nat} {f0:List Int} {f1:Int} {f2:Int} {α:Type} {d:Kd α} {e:Nat} {base:Nat} {ok:Nat → Prop} {v:Value} {xs:List α} (h:I97 w0 W g f0 f1 f2) (ho:d.S e W base ok v xs) (ht:∀ q,q ∈ e :: d.E → q≠97):d.S e W base (fun k=>ok k∧k≠g) v xs:=by
  obtain ⟨A0,c0,hb,hg,hr0⟩:=h;exact Kd.S_types ho hb ht
theorem I97.own_neS {w0 W:World} {g:Nat} {f0:List Int} {f1:Int} {f2:Int} {α:Type} {d:Kd α} {e:Nat} {base:Nat} {ok:Nat → Prop} {v:Value} {xs:List α} (h:I97 w0 W g f0 f1 f2) (ho:d.S e W base ok v xs) (ht:e≠97):some g≠v.ownBlock:=by
  obtain ⟨A0,c0,hb,hg,hr0⟩:=h;exact Kd.S_ne ho hb ht
theorem I97.lt {w0 W:World} {g:Nat} {f0:List Int} {f1:Int} {f2:Int} (h:I97 w0 W g f0 f1 f2):g < W.heap.size:=by
  obtain ⟨A0,c0,hb,hg,hr0⟩:=h;exact blk_lt hb
theorem I97.ge {w0 W:World} {g:Nat} {f0:List Int} {f1:Int} {f2:Int} (h:I97 w0 W g f0 f1 f2):w0.heap.size≤g:=by
  obtain ⟨A0,c0,hb,hg,hr0⟩:=h;exact hg
theorem I97.ne_blk {w0 W:World} {g:Nat} {f0:List Int} {f1:Int} {f2:Int} {a:Nat} {cs:Array Value} {t:TypeId} {fr:Nat × Nat} (h:I97 w0 W g f0 f1 f2) (hb2:W.heap[a]? = some (.cells cs t fr)) (ht:t≠97):g≠a:=by
  obtain ⟨A0,c0,hb,hg,hr0⟩:=h
  rintro rfl
  rw [hb] at hb2
  injection hb2 with hb2
  injection hb2 with _ ht2
  exact ht ht2.symm
theorem I97.far {w0 W:World} {g:Nat} {f0:List Int} {f1:Int} {f2:Int} {p:Addr} (h:I97 w0 W g f0 f1 f2) (hne:g≠p.block) (u:Value):I97 w0 (W.setCell p u) g f0 f1 f2:=by
  obtain ⟨A0,c0,hb,hg,hr0⟩:=h;exact ⟨A0,c0,bkf hb hne u,hg,hr0⟩
theorem cellS97_0 {W:World} {g:Nat} {A0:Option Addr} {c0:Nat} {f0:List Int} {f1:Int} {f2:Int} (h:W.heap[g]? = some (.cells #[.slice A0 f0.length c0,.int .i64 f1,.int .u64 f2] 97 (0,0))):W.cell? ⟨g,0,none⟩=some (.slice A0 f0.length c0):=(bkC h 0).trans rfl
theorem cellS97_1 {W:World} {g:Nat} {A0:Option Addr} {c0:Nat} {f0:List Int} {f1:Int} {f2:Int} (h:W.heap[g]? = some (.cells #[.slice A0 f0.length c0,.int .i64 f1,.int .u64 f2] 97 (0,0))):W.cell? ⟨g,1,none⟩=some (.int .i64 f1):=(bkC h 1).trans rfl
theorem I97.set_1 {w0 W:World} {g:Nat} {f0:List Int} {f1:Int} {f2:Int} (h:I97 w0 W g f0 f1 f2) (x:Int):I97 w0 (W.setCell ⟨g,1,none⟩ (.int .i64 x)) g f0 x f2:=by
  obtain ⟨A0,c0,hb,hg,hr0⟩:=h;exact ⟨A0,c0,by simpa using blk_set hb 1 (.int .i64 x),hg,hr0⟩
theorem cellS97_2 {W:World} {g:Nat} {A0:Option Addr} {c0:Nat} {f0:List Int} {f1:Int} {f2:Int} (h:W.heap[g]? = some (.cells #[.slice A0 f0.length c0,.int .i64 f1,.int .u64 f2] 97 (0,0))):W.cell? ⟨g,2,none⟩=some (.int .u64 f2):=(bkC h 2).trans rfl
theorem I97.set_2 {w0 W:World} {g:Nat} {f0:List Int} {f1:Int} {f2:Int} (h:I97 w0 W g f0 f1 f2) (x:Int):I97 w0 (W.setCell ⟨g,2,none⟩ (.int .u64 x)) g f0 f1 x:=by
  obtain ⟨A0,c0,hb,hg,hr0⟩:=h;exact ⟨A0,c0,by simpa using blk_set hb 2 (.int .u64 x),hg,hr0⟩
theorem I97.new (w0 W:World) (A0:Option Addr) (c0:Nat) (f0:List Int) (f1:Int) (f2:Int) (hB:Below w0.heap.size w0 W) (hr0:Kd.C (Kd.int .u8) w0 A0 f0.length f0):I97 w0 (W.alloc (.cells #[.slice A0 f0.length c0,.int .i64 f1,.int .u64 f2] 97)) W.heap.size f0 f1 f2:=⟨A0,c0,by simpa using heap_alloc_new W _,hB.size,hr0⟩
abbrev y_ : Bool := true
abbrev n_ : Bool := false
end Go.Proofs.Ytclploookcjcbaa.PFr
