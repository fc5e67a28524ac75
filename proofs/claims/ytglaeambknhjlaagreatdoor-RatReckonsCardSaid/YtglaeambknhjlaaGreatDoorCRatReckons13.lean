/- Texts under the proof, joined by a program (prune.py): P160, HForm, HFormed, HParse1. -/
import Derived.Test.YtglaeambknhjlaaGreatDoorCRatReckons01
import Derived.Test.YtglaeambknhjlaaGreatDoorCRatReckons08
import Derived.BigQuiet
import Derived.Deep.QuietTactic
import Derived.Test.YtglaeambknhjlaaGreatDoorCRatReckons06
set_option linter.unusedVariables false
set_option linter.unusedSimpArgs false
set_option exponentiation.threshold 20001
set_option maxHeartbeats 8000000
set_option maxRecDepth 100000
section
namespace Go.Proofs.P9
open Go.RowKit Go.Proofs.W9.Wa Go.Proofs.W9.Wb Go.Proofs.W9.Wc
attribute [local go_sem] zaC zaB zaL zaK zaz zay zaE zaD
set_option linter.unusedVariables false
set_option linter.unusedSimpArgs false
def IsS139 (w0 W:World) (g:Nat) (f0:ByteArray) (f1:Int) (f2:Bool) (f3:Bool) (f4:ByteArray) (f5:Int) (f6:ByteArray) (f7:Bool) (f8:ByteArray) (f9:Bool) (f10:Int):Prop:=W.heap[g]? = some (.cells #[.string f0,.int .i64 f1,.bool f2,.bool f3,.string f4,.int .i64 f5,.string f6,.bool f7,.string f8,.bool f9,.int .i64 f10] 139 (0,0))∧w0.heap.size≤g
theorem IsS139.grown {w0 W:World} {g:Nat} {f0:ByteArray} {f1:Int} {f2:Bool} {f3:Bool} {f4:ByteArray} {f5:Int} {f6:ByteArray} {f7:Bool} {f8:ByteArray} {f9:Bool} {f10:Int} {W1:World} {row:Option Nat} (h:IsS139 w0 W g f0 f1 f2 f3 f4 f5 f6 f7 f8 f9 f10) (hw:W.grownBy W1 row) (hne:some g≠row):IsS139 w0 W1 g f0 f1 f2 f3 f4 f5 f6 f7 f8 f9 f10:=by
 obtain ⟨hb,hg⟩:=h
 exact ⟨blk_grown hb hw hne,hg⟩
theorem IsS139.kept {w0 W:World} {g:Nat} {f0:ByteArray} {f1:Int} {f2:Bool} {f3:Bool} {f4:ByteArray} {f5:Int} {f6:ByteArray} {f7:Bool} {f8:ByteArray} {f9:Bool} {f10:Int} {W1:World} {S:Nat→Prop} (h:IsS139 w0 W g f0 f1 f2 f3 f4 f5 f6 f7 f8 f9 f10) (hk:Kept W W1 S) (hne:¬ S g):IsS139 w0 W1 g f0 f1 f2 f3 f4 f5 f6 f7 f8 f9 f10:=by
 obtain ⟨hb,hg⟩:=h
 exact ⟨blk_kept hb hk hne,hg⟩
theorem IsS139.below {w0 W:World} {g:Nat} {f0:ByteArray} {f1:Int} {f2:Bool} {f3:Bool} {f4:ByteArray} {f5:Int} {f6:ByteArray} {f7:Bool} {f8:ByteArray} {f9:Bool} {f10:Int} {W1:World} (h:IsS139 w0 W g f0 f1 f2 f3 f4 f5 f6 f7 f8 f9 f10) (hw:Below W.heap.size W W1):IsS139 w0 W1 g f0 f1 f2 f3 f4 f5 f6 f7 f8 f9 f10:=h.grown (zc4 hw none) (by simp)
theorem IsS139.alloc {w0 W:World} {g:Nat} {f0:ByteArray} {f1:Int} {f2:Bool} {f3:Bool} {f4:ByteArray} {f5:Int} {f6:ByteArray} {f7:Bool} {f8:ByteArray} {f9:Bool} {f10:Int} (h:IsS139 w0 W g f0 f1 f2 f3 f4 f5 f6 f7 f8 f9 f10) (o:Obj):IsS139 w0 (W.alloc o) g f0 f1 f2 f3 f4 f5 f6 f7 f8 f9 f10:=h.below (zaa (Below.refl _ _) o)
theorem IsS139.drewN {w0 W:World} {g:Nat} {f0:ByteArray} {f1:Int} {f2:Bool} {f3:Bool} {f4:ByteArray} {f5:Int} {f6:ByteArray} {f7:Bool} {f8:ByteArray} {f9:Bool} {f10:Int} (h:IsS139 w0 W g f0 f1 f2 f3 f4 f5 f6 f7 f8 f9 f10) (m:Nat):IsS139 w0 (W.drewN m) g f0 f1 f2 f3 f4 f5 f6 f7 f8 f9 f10:=h
theorem IsS139.drew {w0 W:World} {g:Nat} {f0:ByteArray} {f1:Int} {f2:Bool} {f3:Bool} {f4:ByteArray} {f5:Int} {f6:ByteArray} {f7:Bool} {f8:ByteArray} {f9:Bool} {f10:Int} (h:IsS139 w0 W g f0 f1 f2 f3 f4 f5 f6 f7 f8 f9 f10):IsS139 w0 W.drew g f0 f1 f2 f3 f4 f5 f6 f7 f8 f9 f10:=h
theorem IsS139.at_ {w0 W:World} {g:Nat} {f0:ByteArray} {f1:Int} {f2:Bool} {f3:Bool} {f4:ByteArray} {f5:Int} {f6:ByteArray} {f7:Bool} {f8:ByteArray} {f9:Bool} {f10:Int} {w':World} {m:Nat} (hq:W.drewN m=w') (h:IsS139 w0 W g f0 f1 f2 f3 f4 f5 f6 f7 f8 f9 f10):IsS139 w0 w' g f0 f1 f2 f3 f4 f5 f6 f7 f8 f9 f10:=by subst hq; exact IsS139.drewN h m
theorem IsS139.apart {w0 W:World} {g:Nat} {f0:ByteArray} {f1:Int} {f2:Bool} {f3:Bool} {f4:ByteArray} {f5:Int} {f6:ByteArray} {f7:Bool} {f8:ByteArray} {f9:Bool} {f10:Int} {α:Type} {d:Kd α} {e:Nat} {base:Nat} {ok:Nat→Prop} {v:Value} {xs:List α} (h:IsS139 w0 W g f0 f1 f2 f3 f4 f5 f6 f7 f8 f9 f10) (ho:d.R e W base ok v xs) (ht:∀ q,q∈e :: d.E→q≠139):d.R e W base (fun k=>ok k∧k≠g) v xs:=by
 obtain ⟨hb,hg⟩:=h
 exact Kd.R_types ho hb ht
theorem IsS139.own_ne {w0 W:World} {g:Nat} {f0:ByteArray} {f1:Int} {f2:Bool} {f3:Bool} {f4:ByteArray} {f5:Int} {f6:ByteArray} {f7:Bool} {f8:ByteArray} {f9:Bool} {f10:Int} {α:Type} {d:Kd α} {e:Nat} {base:Nat} {ok:Nat→Prop} {v:Value} {xs:List α} (h:IsS139 w0 W g f0 f1 f2 f3 f4 f5 f6 f7 f8 f9 f10) (ho:d.R e W base ok v xs) (ht:e≠139):some g≠v.ownBlock:=by
 obtain ⟨hb,hg⟩:=h
 exact Kd.R_ne ho hb ht
theorem IsS139.lt {w0 W:World} {g:Nat} {f0:ByteArray} {f1:Int} {f2:Bool} {f3:Bool} {f4:ByteArray} {f5:Int} {f6:ByteArray} {f7:Bool} {f8:ByteArray} {f9:Bool} {f10:Int} (h:IsS139 w0 W g f0 f1 f2 f3 f4 f5 f6 f7 f8 f9 f10):g<W.heap.size:=by
 obtain ⟨hb,hg⟩:=h
 exact zaq hb
theorem IsS139.ge {w0 W:World} {g:Nat} {f0:ByteArray} {f1:Int} {f2:Bool} {f3:Bool} {f4:ByteArray} {f5:Int} {f6:ByteArray} {f7:Bool} {f8:ByteArray} {f9:Bool} {f10:Int} (h:IsS139 w0 W g f0 f1 f2 f3 f4 f5 f6 f7 f8 f9 f10):w0.heap.size≤g:=by
 obtain ⟨hb,hg⟩:=h
 exact hg
theorem zbF {W:World} {g:Nat} {f0:ByteArray} {f1:Int} {f2:Bool} {f3:Bool} {f4:ByteArray} {f5:Int} {f6:ByteArray} {f7:Bool} {f8:ByteArray} {f9:Bool} {f10:Int} (h:W.heap[g]? = some (.cells #[.string f0,.int .i64 f1,.bool f2,.bool f3,.string f4,.int .i64 f5,.string f6,.bool f7,.string f8,.bool f9,.int .i64 f10] 139 (0,0))):W.cell? ⟨g,0,none⟩=some (.string f0):=(zaf h 0).trans rfl
theorem IsS139.set_0 {w0 W:World} {g:Nat} {f0:ByteArray} {f1:Int} {f2:Bool} {f3:Bool} {f4:ByteArray} {f5:Int} {f6:ByteArray} {f7:Bool} {f8:ByteArray} {f9:Bool} {f10:Int} (h:IsS139 w0 W g f0 f1 f2 f3 f4 f5 f6 f7 f8 f9 f10) (x:ByteArray):IsS139 w0 (W.setCell ⟨g,0,none⟩ (.string x)) g x f1 f2 f3 f4 f5 f6 f7 f8 f9 f10:=by
 obtain ⟨hb,hg⟩:=h
 exact ⟨by simpa using zat hb 0 (.string x),hg⟩
theorem zbE {W:World} {g:Nat} {f0:ByteArray} {f1:Int} {f2:Bool} {f3:Bool} {f4:ByteArray} {f5:Int} {f6:ByteArray} {f7:Bool} {f8:ByteArray} {f9:Bool} {f10:Int} (h:W.heap[g]? = some (.cells #[.string f0,.int .i64 f1,.bool f2,.bool f3,.string f4,.int .i64 f5,.string f6,.bool f7,.string f8,.bool f9,.int .i64 f10] 139 (0,0))):W.cell? ⟨g,1,none⟩=some (.int .i64 f1):=(zaf h 1).trans rfl
theorem IsS139.set_1 {w0 W:World} {g:Nat} {f0:ByteArray} {f1:Int} {f2:Bool} {f3:Bool} {f4:ByteArray} {f5:Int} {f6:ByteArray} {f7:Bool} {f8:ByteArray} {f9:Bool} {f10:Int} (h:IsS139 w0 W g f0 f1 f2 f3 f4 f5 f6 f7 f8 f9 f10) (x:Int):IsS139 w0 (W.setCell ⟨g,1,none⟩ (.int .i64 x)) g f0 x f2 f3 f4 f5 f6 f7 f8 f9 f10:=by
 obtain ⟨hb,hg⟩:=h
 exact ⟨by simpa using zat hb 1 (.int .i64 x),hg⟩
theorem zbD {W:World} {g:Nat} {f0:ByteArray} {f1:Int} {f2:Bool} {f3:Bool} {f4:ByteArray} {f5:Int} {f6:ByteArray} {f7:Bool} {f8:ByteArray} {f9:Bool} {f10:Int} (h:W.heap[g]? = some (.cells #[.string f0,.int .i64 f1,.bool f2,.bool f3,.string f4,.int .i64 f5,.string f6,.bool f7,.string f8,.bool f9,.int .i64 f10] 139 (0,0))):W.cell? ⟨g,2,none⟩=some (.bool f2):=(zaf h 2).trans rfl
theorem IsS139.set_2 {w0 W:World} {g:Nat} {f0:ByteArray} {f1:Int} {f2:Bool} {f3:Bool} {f4:ByteArray} {f5:Int} {f6:ByteArray} {f7:Bool} {f8:ByteArray} {f9:Bool} {f10:Int} (h:IsS139 w0 W g f0 f1 f2 f3 f4 f5 f6 f7 f8 f9 f10) (x:Bool):IsS139 w0 (W.setCell ⟨g,2,none⟩ (.bool x)) g f0 f1 x f3 f4 f5 f6 f7 f8 f9 f10:=by
 obtain ⟨hb,hg⟩:=h
 exact ⟨by simpa using zat hb 2 (.bool x),hg⟩
theorem zbC {W:World} {g:Nat} {f0:ByteArray} {f1:Int} {f2:Bool} {f3:Bool} {f4:ByteArray} {f5:Int} {f6:ByteArray} {f7:Bool} {f8:ByteArray} {f9:Bool} {f10:Int} (h:W.heap[g]? = some (.cells #[.string f0,.int .i64 f1,.bool f2,.bool f3,.string f4,.int .i64 f5,.string f6,.bool f7,.string f8,.bool f9,.int .i64 f10] 139 (0,0))):W.cell? ⟨g,3,none⟩=some (.bool f3):=(zaf h 3).trans rfl
theorem IsS139.set_3 {w0 W:World} {g:Nat} {f0:ByteArray} {f1:Int} {f2:Bool} {f3:Bool} {f4:ByteArray} {f5:Int} {f6:ByteArray} {f7:Bool} {f8:ByteArray} {f9:Bool} {f10:Int} (h:IsS139 w0 W g f0 f1 f2 f3 f4 f5 f6 f7 f8 f9 f10) (x:Bool):IsS139 w0 (W.setCell ⟨g,3,none⟩ (.bool x)) g f0 f1 f2 x f4 f5 f6 f7 f8 f9 f10:=by
 obtain ⟨hb,hg⟩:=h
 exact ⟨by simpa using zat hb 3 (.bool x),hg⟩
theorem zbB {W:World} {g:Nat} {f0:ByteArray} {f1:Int} {f2:Bool} {f3:Bool} {f4:ByteArray} {f5:Int} {f6:ByteArray} {f7:Bool} {f8:ByteArray} {f9:Bool} {f10:Int} (h:W.heap[g]? = some (.cells #[.string f0,.int .i64 f1,.bool f2,.bool f3,.string f4,.int .i64 f5,.string f6,.bool f7,.string f8,.bool f9,.int .i64 f10] 139 (0,0))):W.cell? ⟨g,4,none⟩=some (.string f4):=(zaf h 4).trans rfl
theorem IsS139.set_4 {w0 W:World} {g:Nat} {f0:ByteArray} {f1:Int} {f2:Bool} {f3:Bool} {f4:ByteArray} {f5:Int} {f6:ByteArray} {f7:Bool} {f8:ByteArray} {f9:Bool} {f10:Int} (h:IsS139 w0 W g f0 f1 f2 f3 f4 f5 f6 f7 f8 f9 f10) (x:ByteArray):IsS139 w0 (W.setCell ⟨g,4,none⟩ (.string x)) g f0 f1 f2 f3 x f5 f6 f7 f8 f9 f10:=by
 obtain ⟨hb,hg⟩:=h
 exact ⟨by simpa using zat hb 4 (.string x),hg⟩
theorem zbA {W:World} {g:Nat} {f0:ByteArray} {f1:Int} {f2:Bool} {f3:Bool} {f4:ByteArray} {f5:Int} {f6:ByteArray} {f7:Bool} {f8:ByteArray} {f9:Bool} {f10:Int} (h:W.heap[g]? = some (.cells #[.string f0,.int .i64 f1,.bool f2,.bool f3,.string f4,.int .i64 f5,.string f6,.bool f7,.string f8,.bool f9,.int .i64 f10] 139 (0,0))):W.cell? ⟨g,5,none⟩=some (.int .i64 f5):=(zaf h 5).trans rfl
theorem IsS139.set_5 {w0 W:World} {g:Nat} {f0:ByteArray} {f1:Int} {f2:Bool} {f3:Bool} {f4:ByteArray} {f5:Int} {f6:ByteArray} {f7:Bool} {f8:ByteArray} {f9:Bool} {f10:Int} (h:IsS139 w0 W g f0 f1 f2 f3 f4 f5 f6 f7 f8 f9 f10) (x:Int):IsS139 w0 (W.setCell ⟨g,5,none⟩ (.int .i64 x)) g f0 f1 f2 f3 f4 x f6 f7 f8 f9 f10:=by
 obtain ⟨hb,hg⟩:=h
 exact ⟨by simpa using zat hb 5 (.int .i64 x),hg⟩
theorem zbz {W:World} {g:Nat} {f0:ByteArray} {f1:Int} {f2:Bool} {f3:Bool} {f4:ByteArray} {f5:Int} {f6:ByteArray} {f7:Bool} {f8:ByteArray} {f9:Bool} {f10:Int} (h:W.heap[g]? = some (.cells #[.string f0,.int .i64 f1,.bool f2,.bool f3,.string f4,.int .i64 f5,.string f6,.bool f7,.string f8,.bool f9,.int .i64 f10] 139 (0,0))):W.cell? ⟨g,6,none⟩=some (.string f6):=(zaf h 6).trans rfl
theorem IsS139.set_6 {w0 W:World} {g:Nat} {f0:ByteArray} {f1:Int} {f2:Bool} {f3:Bool} {f4:ByteArray} {f5:Int} {f6:ByteArray} {f7:Bool} {f8:ByteArray} {f9:Bool} {f10:Int} (h:IsS139 w0 W g f0 f1 f2 f3 f4 f5 f6 f7 f8 f9 f10) (x:ByteArray):IsS139 w0 (W.setCell ⟨g,6,none⟩ (.string x)) g f0 f1 f2 f3 f4 f5 x f7 f8 f9 f10:=by
 obtain ⟨hb,hg⟩:=h
 exact ⟨by simpa using zat hb 6 (.string x),hg⟩
theorem zby {W:World} {g:Nat} {f0:ByteArray} {f1:Int} {f2:Bool} {f3:Bool} {f4:ByteArray} {f5:Int} {f6:ByteArray} {f7:Bool} {f8:ByteArray} {f9:Bool} {f10:Int} (h:W.heap[g]? = some (.cells #[.string f0,.int .i64 f1,.bool f2,.bool f3,.string f4,.int .i64 f5,.string f6,.bool f7,.string f8,.bool f9,.int .i64 f10] 139 (0,0))):W.cell? ⟨g,7,none⟩=some (.bool f7):=(zaf h 7).trans rfl
theorem IsS139.set_7 {w0 W:World} {g:Nat} {f0:ByteArray} {f1:Int} {f2:Bool} {f3:Bool} {f4:ByteArray} {f5:Int} {f6:ByteArray} {f7:Bool} {f8:ByteArray} {f9:Bool} {f10:Int} (h:IsS139 w0 W g f0 f1 f2 f3 f4 f5 f6 f7 f8 f9 f10) (x:Bool):IsS139 w0 (W.setCell ⟨g,7,none⟩ (.bool x)) g f0 f1 f2 f3 f4 f5 f6 x f8 f9 f10:=by
 obtain ⟨hb,hg⟩:=h
 exact ⟨by simpa using zat hb 7 (.bool x),hg⟩
theorem zbx {W:World} {g:Nat} {f0:ByteArray} {f1:Int} {f2:Bool} {f3:Bool} {f4:ByteArray} {f5:Int} {f6:ByteArray} {f7:Bool} {f8:ByteArray} {f9:Bool} {f10:Int} (h:W.heap[g]? = some (.cells #[.string f0,.int .i64 f1,.bool f2,.bool f3,.string f4,.int .i64 f5,.string f6,.bool f7,.string f8,.bool f9,.int .i64 f10] 139 (0,0))):W.cell? ⟨g,8,none⟩=some (.string f8):=(zaf h 8).trans rfl
theorem IsS139.set_8 {w0 W:World} {g:Nat} {f0:ByteArray} {f1:Int} {f2:Bool} {f3:Bool} {f4:ByteArray} {f5:Int} {f6:ByteArray} {f7:Bool} {f8:ByteArray} {f9:Bool} {f10:Int} (h:IsS139 w0 W g f0 f1 f2 f3 f4 f5 f6 f7 f8 f9 f10) (x:ByteArray):IsS139 w0 (W.setCell ⟨g,8,none⟩ (.string x)) g f0 f1 f2 f3 f4 f5 f6 f7 x f9 f10:=by
 obtain ⟨hb,hg⟩:=h
 exact ⟨by simpa using zat hb 8 (.string x),hg⟩
theorem zbw {W:World} {g:Nat} {f0:ByteArray} {f1:Int} {f2:Bool} {f3:Bool} {f4:ByteArray} {f5:Int} {f6:ByteArray} {f7:Bool} {f8:ByteArray} {f9:Bool} {f10:Int} (h:W.heap[g]? = some (.cells #[.string f0,.int .i64 f1,.bool f2,.bool f3,.string f4,.int .i64 f5,.string f6,.bool f7,.string f8,.bool f9,.int .i64 f10] 139 (0,0))):W.cell? ⟨g,9,none⟩=some (.bool f9):=(zaf h 9).trans rfl
theorem IsS139.set_9 {w0 W:World} {g:Nat} {f0:ByteArray} {f1:Int} {f2:Bool} {f3:Bool} {f4:ByteArray} {f5:Int} {f6:ByteArray} {f7:Bool} {f8:ByteArray} {f9:Bool} {f10:Int} (h:IsS139 w0 W g f0 f1 f2 f3 f4 f5 f6 f7 f8 f9 f10) (x:Bool):IsS139 w0 (W.setCell ⟨g,9,none⟩ (.bool x)) g f0 f1 f2 f3 f4 f5 f6 f7 f8 x f10:=by
 obtain ⟨hb,hg⟩:=h
 exact ⟨by simpa using zat hb 9 (.bool x),hg⟩
theorem zbk {W:World} {g:Nat} {f0:ByteArray} {f1:Int} {f2:Bool} {f3:Bool} {f4:ByteArray} {f5:Int} {f6:ByteArray} {f7:Bool} {f8:ByteArray} {f9:Bool} {f10:Int} (h:W.heap[g]? = some (.cells #[.string f0,.int .i64 f1,.bool f2,.bool f3,.string f4,.int .i64 f5,.string f6,.bool f7,.string f8,.bool f9,.int .i64 f10] 139 (0,0))):W.cell? ⟨g,10,none⟩=some (.int .i64 f10):=(zaf h 10).trans rfl
theorem IsS139.set_10 {w0 W:World} {g:Nat} {f0:ByteArray} {f1:Int} {f2:Bool} {f3:Bool} {f4:ByteArray} {f5:Int} {f6:ByteArray} {f7:Bool} {f8:ByteArray} {f9:Bool} {f10:Int} (h:IsS139 w0 W g f0 f1 f2 f3 f4 f5 f6 f7 f8 f9 f10) (x:Int):IsS139 w0 (W.setCell ⟨g,10,none⟩ (.int .i64 x)) g f0 f1 f2 f3 f4 f5 f6 f7 f8 f9 x:=by
 obtain ⟨hb,hg⟩:=h
 exact ⟨by simpa using zat hb 10 (.int .i64 x),hg⟩
theorem IsS139.new (w0 W:World) (f0:ByteArray) (f1:Int) (f2:Bool) (f3:Bool) (f4:ByteArray) (f5:Int) (f6:ByteArray) (f7:Bool) (f8:ByteArray) (f9:Bool) (f10:Int) (hB:Below w0.heap.size w0 W):IsS139 w0 (W.alloc (.cells #[.string f0,.int .i64 f1,.bool f2,.bool f3,.string f4,.int .i64 f5,.string f6,.bool f7,.string f8,.bool f9,.int .i64 f10] 139)) W.heap.size f0 f1 f2 f3 f4 f5 f6 f7 f8 f9 f10:=⟨by simpa using heap_alloc_new W _,hB.size⟩
def rat_form_digits.l0:Nat→Int→ByteArray→Int→Bool→Bool→ByteArray→Int→ByteArray→Bool→ByteArray→Bool→Int→Option (ByteArray×ByteArray×Int×Bool×Bool×ByteArray×Int×ByteArray×Bool×ByteArray×Bool×Int)
 | 0,_,_,_,_,_,_,_,_,_,_,_,_=>none
 | k+1,x3,x1000,x1001,x1002,x1003,x1004,x1005,x1006,x1007,x1008,x1009,x1010=>if x1001<(x1000.size:Int) then (if 0≤x1001 then (if (bt x1000 x1001)≥48 then (if (bt x1000 x1001)≤57 then (rat_form_digits.l0 k x3 x1000 (wrap64 (x1001+1)) x1002 x1003 x1004 x1005 x1006 x1007 x1008 x1009 x1010) else (if x1002=true then (if 0≤x3 then (if x3≤x1001 then (if x1001≤(x1000.size:Int) then (some (x1000.extract (x3:Int).toNat (x1001:Int).toNat,x1000,x1001,true,x1003,x1004,x1005,x1006,x1007,x1008,x1009,x1010)) else (none)) else (none)) else (none)) else (if 0≤x3 then (if x3≤x1001 then (if x1001≤(x1000.size:Int) then (some (x1000.extract (x3:Int).toNat (x1001:Int).toNat,x1000,x1001,(x1001 == x3),x1003,x1004,x1005,x1006,x1007,x1008,x1009,x1010)) else (none)) else (none)) else (none)))) else (if x1002=true then (if 0≤x3 then (if x3≤x1001 then (if x1001≤(x1000.size:Int) then (some (x1000.extract (x3:Int).toNat (x1001:Int).toNat,x1000,x1001,true,x1003,x1004,x1005,x1006,x1007,x1008,x1009,x1010)) else (none)) else (none)) else (none)) else (if 0≤x3 then (if x3≤x1001 then (if x1001≤(x1000.size:Int) then (some (x1000.extract (x3:Int).toNat (x1001:Int).toNat,x1000,x1001,(x1001 == x3),x1003,x1004,x1005,x1006,x1007,x1008,x1009,x1010)) else (none)) else (none)) else (none)))) else (none)) else (if x1002=true then (if 0≤x3 then (if x3≤x1001 then (if x1001≤(x1000.size:Int) then (some (x1000.extract (x3:Int).toNat (x1001:Int).toNat,x1000,x1001,true,x1003,x1004,x1005,x1006,x1007,x1008,x1009,x1010)) else (none)) else (none)) else (none)) else (if 0≤x3 then (if x3≤x1001 then (if x1001≤(x1000.size:Int) then (some (x1000.extract (x3:Int).toNat (x1001:Int).toNat,x1000,x1001,(x1001 == x3),x1003,x1004,x1005,x1006,x1007,x1008,x1009,x1010)) else (none)) else (none)) else (none)))
def rat_form_digits.f (k:Nat) (s0_0:ByteArray) (s0_1:Int) (s0_2:Bool) (s0_3:Bool) (s0_4:ByteArray) (s0_5:Int) (s0_6:ByteArray) (s0_7:Bool) (s0_8:ByteArray) (s0_9:Bool) (s0_10:Int):Option (ByteArray×ByteArray×Int×Bool×Bool×ByteArray×Int×ByteArray×Bool×ByteArray×Bool×Int):=rat_form_digits.l0 k s0_1 s0_0 s0_1 s0_2 s0_3 s0_4 s0_5 s0_6 s0_7 s0_8 s0_9 s0_10
theorem rat_form_digits.calls (k:Nat) (g:Nat) (s0_0:ByteArray) (s0_1:Int) (s0_2:Bool) (s0_3:Bool) (s0_4:ByteArray) (s0_5:Int) (s0_6:ByteArray) (s0_7:Bool) (s0_8:ByteArray) (s0_9:Bool) (s0_10:Int) (r1:ByteArray) (r2:ByteArray) (r3:Int) (r4:Bool) (r5:Bool) (r6:ByteArray) (r7:Int) (r8:ByteArray) (r9:Bool) (r10:ByteArray) (r11:Bool) (r12:Int) (w0 w:World) (hI:IsS139 w0 w g s0_0 s0_1 s0_2 s0_3 s0_4 s0_5 s0_6 s0_7 s0_8 s0_9 s0_10) (hB:Below w0.heap.size w0 w) (h:rat_form_digits.f k s0_0 s0_1 s0_2 s0_3 s0_4 s0_5 s0_6 s0_7 s0_8 s0_9 s0_10=some (r1,r2,r3,r4,r5,r6,r7,r8,r9,r10,r11,r12)) :
  Calls Tryz.prog 212 #[.pointer (some ⟨g,0,none⟩)] w fun e w'=>e = .returned (.string r1)∧IsS139 w0 w' g r2 r3 r4 r5 r6 r7 r8 r9 r10 r11 r12∧Below w0.heap.size w0 w'∧KeepBut w w' g none:=by
 have HI0:=Aside0.mk hI
 have HK:=Aside0.mk (KeepBut.refl w g none)
 have HL:=Aside0.mk hB.size
 clear hI
 have HW0:=Aside0.mk hB.size
 have HB:=Aside0.mk hB
 clear hB
 have H:(rat_form_digits.l0 k s0_1 s0_0 s0_1 s0_2 s0_3 s0_4 s0_5 s0_6 s0_7 s0_8 s0_9 s0_10)=some (r1,r2,r3,r4,r5,r6,r7,r8,r9,r10,r11,r12):=h
 clear h
 have H':=Aside0.mk H
 clear H
 obtain ⟨HGz2,hgz2⟩:=HI0.out
 have hcz2_0:=zbF HGz2
 have hcz2_1:=zbE HGz2
 have hcz2_2:=zbD HGz2
 have hcz2_3:=zbC HGz2
 have hcz2_4:=zbB HGz2
 have hcz2_5:=zbA HGz2
 have hcz2_6:=zbz HGz2
 have hcz2_7:=zby HGz2
 have hcz2_8:=zbx HGz2
 have hcz2_9:=zbw HGz2
 have hcz2_10:=zbk HGz2
 have hfz2_0:=zac HGz2 0
 have hfz2_1:=zac HGz2 1
 have hfz2_2:=zac HGz2 2
 have hfz2_3:=zac HGz2 3
 have hfz2_4:=zac HGz2 4
 have hfz2_5:=zac HGz2 5
 have hfz2_6:=zac HGz2 6
 have hfz2_7:=zac HGz2 7
 have hfz2_8:=zac HGz2 8
 have hfz2_9:=zac HGz2 9
 have hfz2_10:=zac HGz2 10
 clear HGz2 hgz2
 go_enter Tryz.func212,Tryz.ntmps212
 go_wp2
 go_loopg [] k (fun kq w'=>∃ (x1001_1:Int),Aside0 (rat_form_digits.l0 kq s0_1 s0_0 x1001_1 s0_2 s0_3 s0_4 s0_5 s0_6 s0_7 s0_8 s0_9 s0_10=some (r1,r2,r3,r4,r5,r6,r7,r8,r9,r10,r11,r12))∧Aside0 (kq≤k)∧Aside0 (IsS139 w0 w' g s0_0 x1001_1 s0_2 s0_3 s0_4 s0_5 s0_6 s0_7 s0_8 s0_9 s0_10)∧Aside0 (KeepBut w w' g none)∧Aside0 (Below w0.heap.size w0 w'))
 case atStart=>exact ⟨(s0_1),H',⟨Nat.le_refl _⟩,⟨by repeat (first|(with_reducible first|exact HI0.out|apply IsS139.alloc|apply IsS139.drewN|apply IsS139.drew|apply IsS139.set_0|apply IsS139.set_1|apply IsS139.set_2|apply IsS139.set_3|apply IsS139.set_4|apply IsS139.set_5|apply IsS139.set_6|apply IsS139.set_7|apply IsS139.set_8|apply IsS139.set_9|apply IsS139.set_10)|exact HI0.out)⟩,⟨by repeat (first|(with_reducible first|exact HK.out|apply KeepBut.set_|apply zbu|apply zb0|apply zbv)|exact HK.out)⟩,⟨by repeat (first|(with_reducible first|exact HB.out|apply zaa|apply zab|apply zad|refine zag ?_ (IsS139.ge HI0.out))|exact HB.out)⟩⟩
 case round =>
  clear H'
  try clear c2
  try clear p2
  obtain ⟨x1001_1,HA,HK1,HI0,HK,HB⟩:=hrel
  cases gk with
  | zero=>exact absurd HA.out (by simp [rat_form_digits.l0])
  | succ k1 =>
   have H:=HA.out
   clear HA
   simp only [rat_form_digits.l0] at H
   by_cases c3:x1001_1<(s0_0.size:Int)
   ·rw [if_pos c3] at H
    have c3b0:decide (x1001_1<(s0_0.size:Int))=true:=decide_eq_true c3
    clear c3
    by_cases c4:0≤x1001_1
    ·rw [if_pos c4] at H
     have c4b0:decide (0≤x1001_1)=true:=decide_eq_true c4
     clear c4
     by_cases c6:(bt s0_0 x1001_1)≥48
     ·rw [if_pos c6] at H
      have c6b0:decide (48≤(bt s0_0 x1001_1))=true:=decide_eq_true c6
      clear c6
      by_cases c8:(bt s0_0 x1001_1)≤57
      ·rw [if_pos c8] at H
       have c8b0:decide ((bt s0_0 x1001_1)≤57)=true:=decide_eq_true c8
       clear c8
       have H':=Aside0.mk H
       clear H
       obtain ⟨HGz9,hgz9⟩:=HI0.out
       have hcz9_0:=zbF HGz9
       have hcz9_1:=zbE HGz9
       have hcz9_2:=zbD HGz9
       have hcz9_3:=zbC HGz9
       have hcz9_4:=zbB HGz9
       have hcz9_5:=zbA HGz9
       have hcz9_6:=zbz HGz9
       have hcz9_7:=zby HGz9
       have hcz9_8:=zbx HGz9
       have hcz9_9:=zbw HGz9
       have hcz9_10:=zbk HGz9
       have hfz9_0:=zac HGz9 0
       have hfz9_1:=zac HGz9 1
       have hfz9_2:=zac HGz9 2
       have hfz9_3:=zac HGz9 3
       have hfz9_4:=zac HGz9 4
       have hfz9_5:=zac HGz9 5
       have hfz9_6:=zac HGz9 6
       have hfz9_7:=zac HGz9 7
       have hfz9_8:=zac HGz9 8
       have hfz9_9:=zac HGz9 9
       have hfz9_10:=zac HGz9 10
       clear HGz9 hgz9
       have p5:0≤(x1001_1:Int):=of_decide_eq_true (by first|(with_reducible assumption)|assumption)
       have q5:x1001_1<(s0_0.size:Int):=of_decide_eq_true (by first|(with_reducible assumption)|assumption)
       have hx5:=bt_at s0_0 x1001_1
       replace p5:=eq_true p5
       replace q5:=eq_true q5
       have p7:0≤(x1001_1:Int):=of_decide_eq_true (by first|(with_reducible assumption)|assumption)
       have q7:x1001_1<(s0_0.size:Int):=of_decide_eq_true (by first|(with_reducible assumption)|assumption)
       have hx7:=bt_at s0_0 x1001_1
       replace p7:=eq_true p7
       replace q7:=eq_true q7
       go_wp2
       repeat (go_quiet (fail); try go_wp2)
       go_roundg k1
       case measure=>have:=HK1.out; omega
       case rel=>exact ⟨(wrap64 (x1001_1+1)),H',⟨by have:=HK1.out; omega⟩,⟨by repeat (first|(with_reducible first|exact HI0.out|apply IsS139.alloc|apply IsS139.drewN|apply IsS139.drew|apply IsS139.set_0|apply IsS139.set_1|apply IsS139.set_2|apply IsS139.set_3|apply IsS139.set_4|apply IsS139.set_5|apply IsS139.set_6|apply IsS139.set_7|apply IsS139.set_8|apply IsS139.set_9|apply IsS139.set_10)|exact HI0.out)⟩,⟨by repeat (first|(with_reducible first|exact HK.out|apply KeepBut.set_|apply zbu|apply zb0|apply zbv)|exact HK.out)⟩,⟨by repeat (first|(with_reducible first|exact HB.out|apply zaa|apply zab|apply zad|refine zag ?_ (IsS139.ge HI0.out))|exact HB.out)⟩⟩
      ·rw [if_neg c8] at H
       have c8b0:decide ((bt s0_0 x1001_1)≤57)=false:=decide_eq_false c8
       clear c8
       by_cases c10:s0_2=true
       ·subst c10
        have H1:(if 0≤s0_1 then (if s0_1≤x1001_1 then (if x1001_1≤(s0_0.size:Int) then (some (s0_0.extract (s0_1:Int).toNat (x1001_1:Int).toNat,s0_0,x1001_1,true,s0_3,s0_4,s0_5,s0_6,s0_7,s0_8,s0_9,s0_10)) else (none)) else (none)) else (none))=some (r1,r2,r3,r4,r5,r6,r7,r8,r9,r10,r11,r12):=by rw [if_pos rfl] at H; exact H
        clear H
        have H:=H1
        clear H1
        by_cases c11:0≤s0_1
        ·rw [if_pos c11] at H
         have c11b0:=eq_true c11
         have c11b1:decide (0≤s0_1)=true:=decide_eq_true c11
         clear c11
         by_cases c12:s0_1≤x1001_1
         ·rw [if_pos c12] at H
          have c12b0:=eq_true c12
          have c12b1:decide (s0_1≤x1001_1)=true:=decide_eq_true c12
          clear c12
          by_cases c13:x1001_1≤(s0_0.size:Int)
          ·rw [if_pos c13] at H
           have c13b0:=eq_true c13
           have c13b1:decide (x1001_1≤(s0_0.size:Int))=true:=decide_eq_true c13
           clear c13
           simp only [Option.some.injEq,Prod.mk.injEq] at H
           obtain ⟨rfl,rfl,rfl,rfl,rfl,rfl,rfl,rfl,rfl,rfl,rfl,rfl⟩:=H
           obtain ⟨HGz14,hgz14⟩:=HI0.out
           have hcz14_0:=zbF HGz14
           have hcz14_1:=zbE HGz14
           have hcz14_2:=zbD HGz14
           have hcz14_3:=zbC HGz14
           have hcz14_4:=zbB HGz14
           have hcz14_5:=zbA HGz14
           have hcz14_6:=zbz HGz14
           have hcz14_7:=zby HGz14
           have hcz14_8:=zbx HGz14
           have hcz14_9:=zbw HGz14
           have hcz14_10:=zbk HGz14
           have hfz14_0:=zac HGz14 0
           have hfz14_1:=zac HGz14 1
           have hfz14_2:=zac HGz14 2
           have hfz14_3:=zac HGz14 3
           have hfz14_4:=zac HGz14 4
           have hfz14_5:=zac HGz14 5
           have hfz14_6:=zac HGz14 6
           have hfz14_7:=zac HGz14 7
           have hfz14_8:=zac HGz14 8
           have hfz14_9:=zac HGz14 9
           have hfz14_10:=zac HGz14 10
           clear HGz14 hgz14
           have p5:0≤(x1001_1:Int):=of_decide_eq_true (by first|(with_reducible assumption)|assumption)
           have q5:x1001_1<(s0_0.size:Int):=of_decide_eq_true (by first|(with_reducible assumption)|assumption)
           have hx5:=bt_at s0_0 x1001_1
           replace p5:=eq_true p5
           replace q5:=eq_true q5
           have p7:0≤(x1001_1:Int):=of_decide_eq_true (by first|(with_reducible assumption)|assumption)
           have q7:x1001_1<(s0_0.size:Int):=of_decide_eq_true (by first|(with_reducible assumption)|assumption)
           have hx7:=bt_at s0_0 x1001_1
           replace p7:=eq_true p7
           replace q7:=eq_true q7
           go_wp2
           repeat (go_quiet (fail); try go_wp2)
           go_ret
           exact ⟨by first|rfl|(simp [zal,zak]<;>rfl)|(simp [*,zal,zak]<;>rfl),by repeat (first|(with_reducible first|exact HI0.out|apply IsS139.alloc|apply IsS139.drewN|apply IsS139.drew|apply IsS139.set_0|apply IsS139.set_1|apply IsS139.set_2|apply IsS139.set_3|apply IsS139.set_4|apply IsS139.set_5|apply IsS139.set_6|apply IsS139.set_7|apply IsS139.set_8|apply IsS139.set_9|apply IsS139.set_10)|exact HI0.out),by repeat (first|(with_reducible first|exact HB.out|apply zaa|apply zab|apply zad|refine zag ?_ (IsS139.ge HI0.out))|exact HB.out),by repeat (first|(with_reducible first|exact HK.out|apply KeepBut.set_|apply zbu|apply zb0|apply zbv)|exact HK.out)⟩
          ·rw [if_neg c13] at H
           exact absurd H (by simp)
         ·rw [if_neg c12] at H
          exact absurd H (by simp)
        ·rw [if_neg c11] at H
         exact absurd H (by simp)
       ·replace c10:=Bool.eq_false_iff.mpr c10
        subst c10
        have H1:(if 0≤s0_1 then (if s0_1≤x1001_1 then (if x1001_1≤(s0_0.size:Int) then (some (s0_0.extract (s0_1:Int).toNat (x1001_1:Int).toNat,s0_0,x1001_1,(x1001_1 == s0_1),s0_3,s0_4,s0_5,s0_6,s0_7,s0_8,s0_9,s0_10)) else (none)) else (none)) else (none))=some (r1,r2,r3,r4,r5,r6,r7,r8,r9,r10,r11,r12):=by rw [if_neg (show ¬ (false=true) by decide)] at H; exact H
        clear H
        have H:=H1
        clear H1
        by_cases c15:0≤s0_1
        ·rw [if_pos c15] at H
         have c15b0:=eq_true c15
         have c15b1:decide (0≤s0_1)=true:=decide_eq_true c15
         clear c15
         by_cases c16:s0_1≤x1001_1
         ·rw [if_pos c16] at H
          have c16b0:=eq_true c16
          have c16b1:decide (s0_1≤x1001_1)=true:=decide_eq_true c16
          clear c16
          by_cases c17:x1001_1≤(s0_0.size:Int)
          ·rw [if_pos c17] at H
           have c17b0:=eq_true c17
           have c17b1:decide (x1001_1≤(s0_0.size:Int))=true:=decide_eq_true c17
           clear c17
           simp only [Option.some.injEq,Prod.mk.injEq] at H
           obtain ⟨rfl,rfl,rfl,rfl,rfl,rfl,rfl,rfl,rfl,rfl,rfl,rfl⟩:=H
           obtain ⟨HGz18,hgz18⟩:=HI0.out
           have hcz18_0:=zbF HGz18
           have hcz18_1:=zbE HGz18
           have hcz18_2:=zbD HGz18
           have hcz18_3:=zbC HGz18
           have hcz18_4:=zbB HGz18
           have hcz18_5:=zbA HGz18
           have hcz18_6:=zbz HGz18
           have hcz18_7:=zby HGz18
           have hcz18_8:=zbx HGz18
           have hcz18_9:=zbw HGz18
           have hcz18_10:=zbk HGz18
           have hfz18_0:=zac HGz18 0
           have hfz18_1:=zac HGz18 1
           have hfz18_2:=zac HGz18 2
           have hfz18_3:=zac HGz18 3
           have hfz18_4:=zac HGz18 4
           have hfz18_5:=zac HGz18 5
           have hfz18_6:=zac HGz18 6
           have hfz18_7:=zac HGz18 7
           have hfz18_8:=zac HGz18 8
           have hfz18_9:=zac HGz18 9
           have hfz18_10:=zac HGz18 10
           clear HGz18 hgz18
           have p5:0≤(x1001_1:Int):=of_decide_eq_true (by first|(with_reducible assumption)|assumption)
           have q5:x1001_1<(s0_0.size:Int):=of_decide_eq_true (by first|(with_reducible assumption)|assumption)
           have hx5:=bt_at s0_0 x1001_1
           replace p5:=eq_true p5
           replace q5:=eq_true q5
           have p7:0≤(x1001_1:Int):=of_decide_eq_true (by first|(with_reducible assumption)|assumption)
           have q7:x1001_1<(s0_0.size:Int):=of_decide_eq_true (by first|(with_reducible assumption)|assumption)
           have hx7:=bt_at s0_0 x1001_1
           replace p7:=eq_true p7
           replace q7:=eq_true q7
           go_wp2
           repeat (go_quiet (fail); try go_wp2)
           go_ret
           exact ⟨by first|rfl|(simp [zal,zak]<;>rfl)|(simp [*,zal,zak]<;>rfl),by repeat (first|(with_reducible first|exact HI0.out|apply IsS139.alloc|apply IsS139.drewN|apply IsS139.drew|apply IsS139.set_0|apply IsS139.set_1|apply IsS139.set_2|apply IsS139.set_3|apply IsS139.set_4|apply IsS139.set_5|apply IsS139.set_6|apply IsS139.set_7|apply IsS139.set_8|apply IsS139.set_9|apply IsS139.set_10)|exact HI0.out),by repeat (first|(with_reducible first|exact HB.out|apply zaa|apply zab|apply zad|refine zag ?_ (IsS139.ge HI0.out))|exact HB.out),by repeat (first|(with_reducible first|exact HK.out|apply KeepBut.set_|apply zbu|apply zb0|apply zbv)|exact HK.out)⟩
          ·rw [if_neg c17] at H
           exact absurd H (by simp)
         ·rw [if_neg c16] at H
          exact absurd H (by simp)
        ·rw [if_neg c15] at H
         exact absurd H (by simp)
     ·rw [if_neg c6] at H
      have c6b0:decide (48≤(bt s0_0 x1001_1))=false:=decide_eq_false c6
      clear c6
      by_cases c19:s0_2=true
      ·subst c19
       have H1:(if 0≤s0_1 then (if s0_1≤x1001_1 then (if x1001_1≤(s0_0.size:Int) then (some (s0_0.extract (s0_1:Int).toNat (x1001_1:Int).toNat,s0_0,x1001_1,true,s0_3,s0_4,s0_5,s0_6,s0_7,s0_8,s0_9,s0_10)) else (none)) else (none)) else (none))=some (r1,r2,r3,r4,r5,r6,r7,r8,r9,r10,r11,r12):=by rw [if_pos rfl] at H; exact H
       clear H
       have H:=H1
       clear H1
       by_cases c20:0≤s0_1
       ·rw [if_pos c20] at H
        have c20b0:=eq_true c20
        have c20b1:decide (0≤s0_1)=true:=decide_eq_true c20
        clear c20
        by_cases c21:s0_1≤x1001_1
        ·rw [if_pos c21] at H
         have c21b0:=eq_true c21
         have c21b1:decide (s0_1≤x1001_1)=true:=decide_eq_true c21
         clear c21
         by_cases c22:x1001_1≤(s0_0.size:Int)
         ·rw [if_pos c22] at H
          have c22b0:=eq_true c22
          have c22b1:decide (x1001_1≤(s0_0.size:Int))=true:=decide_eq_true c22
          clear c22
          simp only [Option.some.injEq,Prod.mk.injEq] at H
          obtain ⟨rfl,rfl,rfl,rfl,rfl,rfl,rfl,rfl,rfl,rfl,rfl,rfl⟩:=H
          obtain ⟨HGz23,hgz23⟩:=HI0.out
          have hcz23_0:=zbF HGz23
          have hcz23_1:=zbE HGz23
          have hcz23_2:=zbD HGz23
          have hcz23_3:=zbC HGz23
          have hcz23_4:=zbB HGz23
          have hcz23_5:=zbA HGz23
          have hcz23_6:=zbz HGz23
          have hcz23_7:=zby HGz23
          have hcz23_8:=zbx HGz23
          have hcz23_9:=zbw HGz23
          have hcz23_10:=zbk HGz23
          have hfz23_0:=zac HGz23 0
          have hfz23_1:=zac HGz23 1
          have hfz23_2:=zac HGz23 2
          have hfz23_3:=zac HGz23 3
          have hfz23_4:=zac HGz23 4
          have hfz23_5:=zac HGz23 5
          have hfz23_6:=zac HGz23 6
          have hfz23_7:=zac HGz23 7
          have hfz23_8:=zac HGz23 8
          have hfz23_9:=zac HGz23 9
          have hfz23_10:=zac HGz23 10
          clear HGz23 hgz23
          have p5:0≤(x1001_1:Int):=of_decide_eq_true (by first|(with_reducible assumption)|assumption)
          have q5:x1001_1<(s0_0.size:Int):=of_decide_eq_true (by first|(with_reducible assumption)|assumption)
          have hx5:=bt_at s0_0 x1001_1
          replace p5:=eq_true p5
          replace q5:=eq_true q5
          go_wp2
          repeat (go_quiet (fail); try go_wp2)
          go_ret
          exact ⟨by first|rfl|(simp [zal,zak]<;>rfl)|(simp [*,zal,zak]<;>rfl),by repeat (first|(with_reducible first|exact HI0.out|apply IsS139.alloc|apply IsS139.drewN|apply IsS139.drew|apply IsS139.set_0|apply IsS139.set_1|apply IsS139.set_2|apply IsS139.set_3|apply IsS139.set_4|apply IsS139.set_5|apply IsS139.set_6|apply IsS139.set_7|apply IsS139.set_8|apply IsS139.set_9|apply IsS139.set_10)|exact HI0.out),by repeat (first|(with_reducible first|exact HB.out|apply zaa|apply zab|apply zad|refine zag ?_ (IsS139.ge HI0.out))|exact HB.out),by repeat (first|(with_reducible first|exact HK.out|apply KeepBut.set_|apply zbu|apply zb0|apply zbv)|exact HK.out)⟩
         ·rw [if_neg c22] at H
          exact absurd H (by simp)
        ·rw [if_neg c21] at H
         exact absurd H (by simp)
       ·rw [if_neg c20] at H
        exact absurd H (by simp)
      ·replace c19:=Bool.eq_false_iff.mpr c19
       subst c19
       have H1:(if 0≤s0_1 then (if s0_1≤x1001_1 then (if x1001_1≤(s0_0.size:Int) then (some (s0_0.extract (s0_1:Int).toNat (x1001_1:Int).toNat,s0_0,x1001_1,(x1001_1 == s0_1),s0_3,s0_4,s0_5,s0_6,s0_7,s0_8,s0_9,s0_10)) else (none)) else (none)) else (none))=some (r1,r2,r3,r4,r5,r6,r7,r8,r9,r10,r11,r12):=by rw [if_neg (show ¬ (false=true) by decide)] at H; exact H
       clear H
       have H:=H1
       clear H1
       by_cases c24:0≤s0_1
       ·rw [if_pos c24] at H
        have c24b0:=eq_true c24
        have c24b1:decide (0≤s0_1)=true:=decide_eq_true c24
        clear c24
        by_cases c25:s0_1≤x1001_1
        ·rw [if_pos c25] at H
         have c25b0:=eq_true c25
         have c25b1:decide (s0_1≤x1001_1)=true:=decide_eq_true c25
         clear c25
         by_cases c26:x1001_1≤(s0_0.size:Int)
         ·rw [if_pos c26] at H
          have c26b0:=eq_true c26
          have c26b1:decide (x1001_1≤(s0_0.size:Int))=true:=decide_eq_true c26
          clear c26
          simp only [Option.some.injEq,Prod.mk.injEq] at H
          obtain ⟨rfl,rfl,rfl,rfl,rfl,rfl,rfl,rfl,rfl,rfl,rfl,rfl⟩:=H
          obtain ⟨HGz27,hgz27⟩:=HI0.out
          have hcz27_0:=zbF HGz27
          have hcz27_1:=zbE HGz27
          have hcz27_2:=zbD HGz27
          have hcz27_3:=zbC HGz27
          have hcz27_4:=zbB HGz27
          have hcz27_5:=zbA HGz27
          have hcz27_6:=zbz HGz27
          have hcz27_7:=zby HGz27
          have hcz27_8:=zbx HGz27
          have hcz27_9:=zbw HGz27
          have hcz27_10:=zbk HGz27
          have hfz27_0:=zac HGz27 0
          have hfz27_1:=zac HGz27 1
          have hfz27_2:=zac HGz27 2
          have hfz27_3:=zac HGz27 3
          have hfz27_4:=zac HGz27 4
          have hfz27_5:=zac HGz27 5
          have hfz27_6:=zac HGz27 6
          have hfz27_7:=zac HGz27 7
          have hfz27_8:=zac HGz27 8
          have hfz27_9:=zac HGz27 9
          have hfz27_10:=zac HGz27 10
          clear HGz27 hgz27
          have p5:0≤(x1001_1:Int):=of_decide_eq_true (by first|(with_reducible assumption)|assumption)
          have q5:x1001_1<(s0_0.size:Int):=of_decide_eq_true (by first|(with_reducible assumption)|assumption)
          have hx5:=bt_at s0_0 x1001_1
          replace p5:=eq_true p5
          replace q5:=eq_true q5
          go_wp2
          repeat (go_quiet (fail); try go_wp2)
          go_ret
          exact ⟨by first|rfl|(simp [zal,zak]<;>rfl)|(simp [*,zal,zak]<;>rfl),by repeat (first|(with_reducible first|exact HI0.out|apply IsS139.alloc|apply IsS139.drewN|apply IsS139.drew|apply IsS139.set_0|apply IsS139.set_1|apply IsS139.set_2|apply IsS139.set_3|apply IsS139.set_4|apply IsS139.set_5|apply IsS139.set_6|apply IsS139.set_7|apply IsS139.set_8|apply IsS139.set_9|apply IsS139.set_10)|exact HI0.out),by repeat (first|(with_reducible first|exact HB.out|apply zaa|apply zab|apply zad|refine zag ?_ (IsS139.ge HI0.out))|exact HB.out),by repeat (first|(with_reducible first|exact HK.out|apply KeepBut.set_|apply zbu|apply zb0|apply zbv)|exact HK.out)⟩
         ·rw [if_neg c26] at H
          exact absurd H (by simp)
        ·rw [if_neg c25] at H
         exact absurd H (by simp)
       ·rw [if_neg c24] at H
        exact absurd H (by simp)
    ·rw [if_neg c4] at H
     exact absurd H (by simp)
   ·rw [if_neg c3] at H
    have c3b0:decide (x1001_1<(s0_0.size:Int))=false:=decide_eq_false c3
    clear c3
    by_cases c28:s0_2=true
    ·subst c28
     have H1:(if 0≤s0_1 then (if s0_1≤x1001_1 then (if x1001_1≤(s0_0.size:Int) then (some (s0_0.extract (s0_1:Int).toNat (x1001_1:Int).toNat,s0_0,x1001_1,true,s0_3,s0_4,s0_5,s0_6,s0_7,s0_8,s0_9,s0_10)) else (none)) else (none)) else (none))=some (r1,r2,r3,r4,r5,r6,r7,r8,r9,r10,r11,r12):=by rw [if_pos rfl] at H; exact H
     clear H
     have H:=H1
     clear H1
     by_cases c29:0≤s0_1
     ·rw [if_pos c29] at H
      have c29b0:=eq_true c29
      have c29b1:decide (0≤s0_1)=true:=decide_eq_true c29
      clear c29
      by_cases c30:s0_1≤x1001_1
      ·rw [if_pos c30] at H
       have c30b0:=eq_true c30
       have c30b1:decide (s0_1≤x1001_1)=true:=decide_eq_true c30
       clear c30
       by_cases c31:x1001_1≤(s0_0.size:Int)
       ·rw [if_pos c31] at H
        have c31b0:=eq_true c31
        have c31b1:decide (x1001_1≤(s0_0.size:Int))=true:=decide_eq_true c31
        clear c31
        simp only [Option.some.injEq,Prod.mk.injEq] at H
        obtain ⟨rfl,rfl,rfl,rfl,rfl,rfl,rfl,rfl,rfl,rfl,rfl,rfl⟩:=H
        obtain ⟨HGz32,hgz32⟩:=HI0.out
        have hcz32_0:=zbF HGz32
        have hcz32_1:=zbE HGz32
        have hcz32_2:=zbD HGz32
        have hcz32_3:=zbC HGz32
        have hcz32_4:=zbB HGz32
        have hcz32_5:=zbA HGz32
        have hcz32_6:=zbz HGz32
        have hcz32_7:=zby HGz32
        have hcz32_8:=zbx HGz32
        have hcz32_9:=zbw HGz32
        have hcz32_10:=zbk HGz32
        have hfz32_0:=zac HGz32 0
        have hfz32_1:=zac HGz32 1
        have hfz32_2:=zac HGz32 2
        have hfz32_3:=zac HGz32 3
        have hfz32_4:=zac HGz32 4
        have hfz32_5:=zac HGz32 5
        have hfz32_6:=zac HGz32 6
        have hfz32_7:=zac HGz32 7
        have hfz32_8:=zac HGz32 8
        have hfz32_9:=zac HGz32 9
        have hfz32_10:=zac HGz32 10
        clear HGz32 hgz32
        go_wp2
        repeat (go_quiet (fail); try go_wp2)
        go_ret
        exact ⟨by first|rfl|(simp [zal,zak]<;>rfl)|(simp [*,zal,zak]<;>rfl),by repeat (first|(with_reducible first|exact HI0.out|apply IsS139.alloc|apply IsS139.drewN|apply IsS139.drew|apply IsS139.set_0|apply IsS139.set_1|apply IsS139.set_2|apply IsS139.set_3|apply IsS139.set_4|apply IsS139.set_5|apply IsS139.set_6|apply IsS139.set_7|apply IsS139.set_8|apply IsS139.set_9|apply IsS139.set_10)|exact HI0.out),by repeat (first|(with_reducible first|exact HB.out|apply zaa|apply zab|apply zad|refine zag ?_ (IsS139.ge HI0.out))|exact HB.out),by repeat (first|(with_reducible first|exact HK.out|apply KeepBut.set_|apply zbu|apply zb0|apply zbv)|exact HK.out)⟩
       ·rw [if_neg c31] at H
        exact absurd H (by simp)
      ·rw [if_neg c30] at H
       exact absurd H (by simp)
     ·rw [if_neg c29] at H
      exact absurd H (by simp)
    ·replace c28:=Bool.eq_false_iff.mpr c28
     subst c28
     have H1:(if 0≤s0_1 then (if s0_1≤x1001_1 then (if x1001_1≤(s0_0.size:Int) then (some (s0_0.extract (s0_1:Int).toNat (x1001_1:Int).toNat,s0_0,x1001_1,(x1001_1 == s0_1),s0_3,s0_4,s0_5,s0_6,s0_7,s0_8,s0_9,s0_10)) else (none)) else (none)) else (none))=some (r1,r2,r3,r4,r5,r6,r7,r8,r9,r10,r11,r12):=by rw [if_neg (show ¬ (false=true) by decide)] at H; exact H
     clear H
     have H:=H1
     clear H1
     by_cases c33:0≤s0_1
     ·rw [if_pos c33] at H
      have c33b0:=eq_true c33
      have c33b1:decide (0≤s0_1)=true:=decide_eq_true c33
      clear c33
      by_cases c34:s0_1≤x1001_1
      ·rw [if_pos c34] at H
       have c34b0:=eq_true c34
       have c34b1:decide (s0_1≤x1001_1)=true:=decide_eq_true c34
       clear c34
       by_cases c35:x1001_1≤(s0_0.size:Int)
       ·rw [if_pos c35] at H
        have c35b0:=eq_true c35
        have c35b1:decide (x1001_1≤(s0_0.size:Int))=true:=decide_eq_true c35
        clear c35
        simp only [Option.some.injEq,Prod.mk.injEq] at H
        obtain ⟨rfl,rfl,rfl,rfl,rfl,rfl,rfl,rfl,rfl,rfl,rfl,rfl⟩:=H
        obtain ⟨HGz36,hgz36⟩:=HI0.out
        have hcz36_0:=zbF HGz36
        have hcz36_1:=zbE HGz36
        have hcz36_2:=zbD HGz36
        have hcz36_3:=zbC HGz36
        have hcz36_4:=zbB HGz36
        have hcz36_5:=zbA HGz36
        have hcz36_6:=zbz HGz36
        have hcz36_7:=zby HGz36
        have hcz36_8:=zbx HGz36
        have hcz36_9:=zbw HGz36
        have hcz36_10:=zbk HGz36
        have hfz36_0:=zac HGz36 0
        have hfz36_1:=zac HGz36 1
        have hfz36_2:=zac HGz36 2
        have hfz36_3:=zac HGz36 3
        have hfz36_4:=zac HGz36 4
        have hfz36_5:=zac HGz36 5
        have hfz36_6:=zac HGz36 6
        have hfz36_7:=zac HGz36 7
        have hfz36_8:=zac HGz36 8
        have hfz36_9:=zac HGz36 9
        have hfz36_10:=zac HGz36 10
        clear HGz36 hgz36
        go_wp2
        repeat (go_quiet (fail); try go_wp2)
        go_ret
        exact ⟨by first|rfl|(simp [zal,zak]<;>rfl)|(simp [*,zal,zak]<;>rfl),by repeat (first|(with_reducible first|exact HI0.out|apply IsS139.alloc|apply IsS139.drewN|apply IsS139.drew|apply IsS139.set_0|apply IsS139.set_1|apply IsS139.set_2|apply IsS139.set_3|apply IsS139.set_4|apply IsS139.set_5|apply IsS139.set_6|apply IsS139.set_7|apply IsS139.set_8|apply IsS139.set_9|apply IsS139.set_10)|exact HI0.out),by repeat (first|(with_reducible first|exact HB.out|apply zaa|apply zab|apply zad|refine zag ?_ (IsS139.ge HI0.out))|exact HB.out),by repeat (first|(with_reducible first|exact HK.out|apply KeepBut.set_|apply zbu|apply zb0|apply zbv)|exact HK.out)⟩
       ·rw [if_neg c35] at H
        exact absurd H (by simp)
      ·rw [if_neg c34] at H
       exact absurd H (by simp)
     ·rw [if_neg c33] at H
      exact absurd H (by simp)
end Go.Proofs.P9
end
section
set_option linter.unusedVariables false
namespace Go.Proofs.P9
open Go.RowKit Go.Proofs.W9.Wa
structure Fm where
 at_:Nat
 bad:Bool
 neg:Bool
 m:ByteArray
 behind:Nat
 exp:ByteArray
 minus:Bool
 den:ByteArray
 fraction:Bool
 slash:Nat
def Fm.obj (s:ByteArray) (f:Fm):Array Value:=#[.string s,.int .i64 f.at_,.bool f.bad,.bool f.neg,.string f.m,.int .i64 f.behind,.string f.exp,.bool f.minus,.string f.den,.bool f.fraction,.int .i64 f.slash]
structure FSt (w0 w:World) (g:Nat) (s:ByteArray) (f:Fm):Prop where
 blk:w.heap[g]? = some (.cells (f.obj s) 139 (0,0))
 ge:w0.heap.size≤g
 below:Below w0.heap.size w0 w
def isD (c:UInt8):Bool:=decide (48≤c.toNat) && decide (c.toNat≤57)
def runN (l:List UInt8) (i:Nat):Nat:=i+((l.drop i).takeWhile isD).length
theorem runN_le {l:List UInt8} {i:Nat} (h:i≤l.length):runN l i≤l.length:=by
 unfold runN
 have:=(List.takeWhile_sublist isD (l:=l.drop i)).length_le
 rw [List.length_drop] at this
 omega
theorem runN_step {l:List UInt8} {i:Nat} (h:i<l.length) (hd:isD l[i]=true):runN l i=runN l (i+1):=by
 unfold runN
 rw [List.drop_eq_getElem_cons h,List.takeWhile_cons,if_pos hd,List.length_cons]; omega
theorem runN_stop {l:List UInt8} {i:Nat} (h:i<l.length) (hd:isD l[i]=false):runN l i=i:=by
 unfold runN
 rw [List.drop_eq_getElem_cons h,List.takeWhile_cons,if_neg (by rw [hd]; decide)]; rfl
theorem runN_end {l:List UInt8} {i:Nat} (h:l.length≤i):runN l i=i:=by
 unfold runN
 rw [List.drop_eq_nil_of_le h]; rfl
def Fm.digT (s:ByteArray) (f:Fm):ByteArray:=s.extract f.at_ (runN s.data.toList f.at_)
def Fm.dig (s:ByteArray) (f:Fm):Fm:={ f with at_:=runN s.data.toList f.at_,bad:=f.bad || decide (runN s.data.toList f.at_=f.at_) }
theorem digits_ev (s:ByteArray) (hs:s.size≤1099511627776) (fr:Nat) (bad neg:Bool) (m:ByteArray) (bh:Int) (ex:ByteArray) (mi:Bool) (de:ByteArray) (fc:Bool) (sl:Int):∀ (d i:Nat),s.size-i=d→fr≤i→i≤s.size →
  Ev (fun k=>rat_form_digits.l0 k (fr:Int) s (i:Int) bad neg m bh ex mi de fc sl) (s.extract fr (runN s.data.toList i),s,((runN s.data.toList i:Nat):Int),bad || decide (runN s.data.toList i=fr),neg,m,bh,ex,mi,de,fc,sl):=by
 have hl:s.data.toList.length=s.size:=zar s
 have hbool:∀ i:Nat,((i:Int) == (fr:Int))=decide (i=fr):=fun i=>by
  rw [Bool.eq_iff_iff]; simp only [beq_iff_eq,decide_eq_true_eq]; omega
 intro d
 induction d with
 | zero =>
  intro i hd hf hi
  have:i=s.size:=by omega
  subst this
  rw [runN_end (by omega)]
  cases bad
  ·refine Ev.step (f:=fun _=>some (s.extract fr s.size,s,((s.size:Nat):Int),false || decide (s.size=fr),neg,m,bh,ex,mi,de,fc,sl)) (fun k => ?_) (Ev.now _)
   simp only [rat_form_digits.l0]
   rw [if_neg (by omega),if_neg (by decide),if_pos (by omega),if_pos (by omega),if_pos (by omega),Int.toNat_natCast,Int.toNat_natCast,hbool,Bool.false_or]
  ·refine Ev.step (f:=fun _=>some (s.extract fr s.size,s,((s.size:Nat):Int),true || decide (s.size=fr),neg,m,bh,ex,mi,de,fc,sl)) (fun k => ?_) (Ev.now _)
   simp only [rat_form_digits.l0]
   rw [if_neg (by omega),if_pos trivial,if_pos (by omega),if_pos (by omega),if_pos (by omega),Int.toNat_natCast,Int.toNat_natCast,Bool.true_or]
 | succ d ih =>
  intro i hd hf hi
  have hil:i<s.data.toList.length:=by omega
  have hb:=bt_nth s hil
  by_cases h1:48≤s.data.toList[i].toNat
  ·by_cases h2:s.data.toList[i].toNat≤57
   ·have hD:isD s.data.toList[i]=true:=by unfold isD; rw [decide_eq_true h1,decide_eq_true h2]; rfl
    rw [runN_step hil hD]
    refine Ev.step (fun k => ?_) (ih (i+1) (by omega) (by omega) (by omega))
    simp only [rat_form_digits.l0]
    rw [if_pos (by omega),if_pos (by omega),hb,if_pos (by omega),if_pos (by omega),w64' (by omega) (by omega)]
    rfl
   ·have hD:isD s.data.toList[i]=false:=by unfold isD; rw [decide_eq_false h2,Bool.and_false]
    rw [runN_stop hil hD]
    cases bad
    ·refine Ev.step (f:=fun _=>some (s.extract fr i,s,((i:Nat):Int),false || decide (i=fr),neg,m,bh,ex,mi,de,fc,sl)) (fun k => ?_) (Ev.now _)
     simp only [rat_form_digits.l0]
     rw [if_pos (by omega),if_pos (by omega),hb,if_pos (by omega),if_neg (by omega),if_neg (by decide),if_pos (by omega),if_pos (by omega),if_pos (by omega),Int.toNat_natCast,Int.toNat_natCast,hbool,Bool.false_or]
    ·refine Ev.step (f:=fun _=>some (s.extract fr i,s,((i:Nat):Int),true || decide (i=fr),neg,m,bh,ex,mi,de,fc,sl)) (fun k => ?_) (Ev.now _)
     simp only [rat_form_digits.l0]
     rw [if_pos (by omega),if_pos (by omega),hb,if_pos (by omega),if_neg (by omega),if_pos trivial,if_pos (by omega),if_pos (by omega),if_pos (by omega),Int.toNat_natCast,Int.toNat_natCast,Bool.true_or]
  ·have hD:isD s.data.toList[i]=false:=by unfold isD; rw [decide_eq_false h1]; rfl
   rw [runN_stop hil hD]
   cases bad
   ·refine Ev.step (f:=fun _=>some (s.extract fr i,s,((i:Nat):Int),false || decide (i=fr),neg,m,bh,ex,mi,de,fc,sl)) (fun k => ?_) (Ev.now _)
    simp only [rat_form_digits.l0]
    rw [if_pos (by omega),if_pos (by omega),hb,if_neg (by omega),if_neg (by decide),if_pos (by omega),if_pos (by omega),if_pos (by omega),Int.toNat_natCast,Int.toNat_natCast,hbool,Bool.false_or]
   ·refine Ev.step (f:=fun _=>some (s.extract fr i,s,((i:Nat):Int),true || decide (i=fr),neg,m,bh,ex,mi,de,fc,sl)) (fun k => ?_) (Ev.now _)
    simp only [rat_form_digits.l0]
    rw [if_pos (by omega),if_pos (by omega),hb,if_neg (by omega),if_pos trivial,if_pos (by omega),if_pos (by omega),if_pos (by omega),Int.toNat_natCast,Int.toNat_natCast,Bool.true_or]
theorem zb3 (w0 w:World) (g:Nat) (s:ByteArray) (f:Fm) (h:FSt w0 w g s f) (hs:s.size≤1099511627776) (ha:f.at_≤s.size) :
  Calls Tryz.prog 212 #[.pointer (some ⟨g,0,none⟩)] w fun e w'=>e = .returned (.string (f.digT s))∧FSt w0 w' g s (f.dig s):=by
 obtain ⟨k,hk⟩:=(digits_ev s hs f.at_ f.bad f.neg f.m f.behind f.exp f.minus f.den f.fraction f.slash (s.size-f.at_) f.at_ rfl (Nat.le_refl _) ha).rounds
 exact (rat_form_digits.calls k g s f.at_ f.bad f.neg f.m f.behind f.exp f.minus f.den f.fraction f.slash _ _ _ _ _ _ _ _ _ _ _ _ w0 w ⟨h.blk,h.ge⟩ h.below hk).mono fun e w' ⟨he,hI,hB,_⟩=>⟨he,hI.1,hI.2,hB⟩
def Fm.sgB (s:ByteArray) (set:ByteArray) (f:Fm):Bool:=!f.bad && decide (f.at_<s.size) && decide (s.data.toList.getD f.at_ 0∈set.data.toList)
def Fm.sgV (s:ByteArray) (set:ByteArray) (f:Fm):Int:=if f.sgB s set then ((s.data.toList.getD f.at_ 0).toNat:Int) else 0
def Fm.sgn (s:ByteArray) (set:ByteArray) (f:Fm):Fm:=if f.sgB s set then { f with at_:=f.at_+1 } else f
theorem FSt.drewN {w0 w:World} {g:Nat} {s:ByteArray} {f:Fm} (h:FSt w0 w g s f) (n:Nat):FSt w0 (w.drewN n) g s f:=⟨h.blk,h.ge,bthen h.below (zao _ _)⟩
theorem index_ge {l:List UInt8} {c:UInt8}:0≤Lib.indexByte l c↔c∈l:=by
 induction l with
 | nil=>simp [Lib.indexByte]
 | cons b l ih =>
  have hg:=Lib.indexByte_ge l c
  unfold Lib.indexByte
  by_cases h:b=c
  ·subst h
   simp
  ·have hb:(b == c)=false:=beq_eq_false_iff_ne.2 h
   have hc:c∈b :: l↔c∈l:=by
    rw [List.mem_cons]
    exact ⟨fun hh=>hh.elim (fun e=>absurd e.symm h) id,Or.inr⟩
   rw [hb,if_neg (by decide),hc,←ih]
   by_cases h1:Lib.indexByte l c = -1
   ·rw [h1]; decide
   ·have:(Lib.indexByte l c == -1)=false:=beq_eq_false_iff_ne.2 h1
    rw [this,if_neg (by decide)]
    omega
theorem zce (w0 w:World) (g:Nat) (s set:ByteArray) (f:Fm) (h:FSt w0 w g s f) (hs:s.size≤1099511627776) (ha:f.at_≤s.size) :
  Calls Tryz.prog 211 #[.pointer (some ⟨g,0,none⟩),.string set] w fun e w'=>e = .returned (.int .u8 (f.sgV s set))∧FSt w0 w' g s (f.sgn s set):=by
 have c0:=(zaf h.blk 0).trans (show _=some (Value.string s) from rfl)
 have c1:=(zaf h.blk 1).trans (show _=some (Value.int .i64 f.at_) from rfl)
 have c2:=(zaf h.blk 2).trans (show _=some (Value.bool f.bad) from rfl)
 have f1:=zac h.blk 1
 have HH:=Lib.hid h
 clear h
 cases hbad:f.bad
 ·rw [hbad] at c2
  have HBAD:=Lib.hid hbad
  clear hbad
  by_cases hlt:f.at_<s.size
  ·have heq:((f.at_:Int) == (s.size:Int))=false:=beq_eq_false_iff_ne.2 (by omega)
   have hlI:(f.at_:Int)<(s.size:Int):=by omega
   have hI:=fun W=>Tryz.strings_IndexByte set ((s[f.at_]'hlt).toNat:Int) W
   have hby:((s[f.at_]'hlt).toNat:Int).toNat.toUInt8=s.data.toList.getD f.at_ 0:=by
    rw [Int.toNat_natCast,List.getD_eq_getElem?_getD,List.getElem?_eq_getElem (by rw [zar]; exact hlt),Option.getD_some]
    simp [ByteArray.getElem_eq_getElem_data,Nat.toUInt8]
   have hby2:((s[f.at_]'hlt).toNat:Int)=((s.data.toList.getD f.at_ 0).toNat:Int):=by
    rw [List.getD_eq_getElem?_getD,List.getElem?_eq_getElem (by rw [zar]; exact hlt),Option.getD_some]
    simp [ByteArray.getElem_eq_getElem_data]
   rw [hby] at hI
   by_cases hin:s.data.toList.getD f.at_ 0∈set.data.toList
   ·have hr:=index_ge.2 hin
    have hsb:f.sgB s set=true:=by unfold Fm.sgB; rw [HBAD.out,decide_eq_true hlt,decide_eq_true hin]; rfl
    have HV:=Lib.hid (show f.sgV s set=((s.data.toList.getD f.at_ 0).toNat:Int)∧f.sgn s set = { f with at_:=f.at_+1 } by unfold Fm.sgV Fm.sgn; rw [if_pos hsb,if_pos hsb]; exact ⟨rfl,rfl⟩)
    generalize Lib.indexByte set.data.toList (s.data.toList.getD f.at_ 0)=r at *
    have HB2:=Lib.hid hby2
    clear hby hby2 hsb hin
    go_enter Tryz.func211,Tryz.ntmps211
    go_wp2
    go_quiet ((go_at_call 235; exact Calls.quiet_of_same (hI _)))
    have hbk:=(HH.out.drewN nq).blk
    have hbl:=(HH.out.drewN nq).below
    have hge:=HH.out.ge
    have f1':=zac hbk 1
    generalize w.drewN nq=w2 at *
    have c1':=(zaf hbk 1).trans (show _=some (Value.int .i64 f.at_) from rfl)
    have hs1:=(zat hbk 1 (.int .i64 ((f.at_:Int)+1))).trans (show _=some (Obj.cells (Fm.obj s { f with at_:=f.at_+1 }) 139 (0,0)) from rfl)
    have hb1:=zag (g:=g) (j:=1) (v:=.int .i64 ((f.at_:Int)+1)) hbl hge
    have HS1:=Lib.hid hs1
    have HB1:=Lib.hid hb1
    have hnr:¬ r<0:=by omega
    clear hbk hs1 hb1 c0 c1 c2 f1 hI
    go_wp2
    generalize w2.setCell ⟨g,1,none⟩ (.int .i64 ((f.at_:Int)+1))=w3 at *
    have d0:=(zaf HS1.out 0).trans (show _=some (Value.string s) from rfl)
    have d1:=(zaf HS1.out 1).trans (show _=some (Value.int .i64 ((f.at_:Int)+1)) from rfl)
    have hwr:IntKind.i64.wrap ((f.at_:Int)+1-1)=(f.at_:Int):=by rw [IntKind.wrap_i64]; omega
    go_quiet (fail)
    clear hwr
    go_wp2
    go_ret
    exact ⟨by rw [HV.out.1,←HB2.out]; rfl,by rw [HV.out.2]; exact ⟨HS1.out,hge,bthen HB1.out (zao _ _)⟩⟩
   ·have hr:¬ 0≤Lib.indexByte set.data.toList (s.data.toList.getD f.at_ 0):=fun h=>hin (index_ge.1 h)
    have hsb:f.sgB s set=false:=by unfold Fm.sgB; rw [decide_eq_false hin,Bool.and_false]
    have HV:=Lib.hid (show f.sgV s set=0∧f.sgn s set=f by unfold Fm.sgV Fm.sgn; rw [hsb]; exact ⟨rfl,rfl⟩)
    generalize Lib.indexByte set.data.toList (s.data.toList.getD f.at_ 0)=r at *
    have hrn:r<0:=by omega
    clear hby hby2 hsb hin hr
    go_enter Tryz.func211,Tryz.ntmps211
    go_wp2
    go_quiet ((go_at_call 235; exact Calls.quiet_of_same (hI _)))
    go_wp2
    go_ret
    exact ⟨by rw [HV.out.1]; rfl,by rw [HV.out.2]; exact HH.out.drewN _⟩
  ·have he:f.at_=s.size:=by omega
   have heq:((f.at_:Int) == (s.size:Int))=true:=beq_iff_eq.2 (by omega)
   have hsb:f.sgB s set=false:=by unfold Fm.sgB; rw [decide_eq_false hlt,Bool.and_false,Bool.false_and]
   have HV:=Lib.hid (show f.sgV s set=0∧f.sgn s set=f by unfold Fm.sgV Fm.sgn; rw [hsb]; exact ⟨rfl,rfl⟩)
   clear hsb he
   go_enter Tryz.func211,Tryz.ntmps211
   go_wp2
   go_quiet (fail)
   go_wp2
   go_ret
   exact ⟨by rw [HV.out.1]; rfl,by rw [HV.out.2]; exact HH.out.drewN _⟩
 ·rw [hbad] at c2
  have HV:=Lib.hid (show f.sgV s set=0∧f.sgn s set=f by unfold Fm.sgV Fm.sgn Fm.sgB; rw [hbad]; exact ⟨rfl,rfl⟩)
  clear hbad
  go_enter Tryz.func211,Tryz.ntmps211
  go_wp2
  go_quiet (fail)
  go_wp2
  go_ret
  exact ⟨by rw [HV.out.1]; rfl,by rw [HV.out.2]; exact HH.out.drewN _⟩
end Go.Proofs.P9
end
section
set_option linter.unusedVariables false
namespace Go.Proofs.P9
open Go.RowKit Go.Proofs.W9.Wa
def F0:Fm:=⟨0,false,false,⟨#[]⟩,0,⟨#[]⟩,false,⟨#[]⟩,false,0⟩
def Fm.end_ (s:ByteArray) (f:Fm):Bool:=!f.bad && decide (f.at_=s.size)
def cM:ByteArray:=⟨#[45]⟩
def cS:ByteArray:=⟨#[47]⟩
def cP:ByteArray:=⟨#[46]⟩
def cE:ByteArray:=⟨#[101,69]⟩
def cPM:ByteArray:=⟨#[43,45]⟩
def form1 (s:ByteArray):Fm:=let f:={ F0.sgn s cM with neg:=F0.sgV s cM != 0 }; { f.dig s with m:=f.digT s }
def formS (s:ByteArray) (f1:Fm):Fm:=let f:={ f1.sgn s cS with fraction:=true,slash:=(f1.sgn s cS).at_ }; { f.dig s with den:=f.digT s }
def formP (s:ByteArray) (f1:Fm):Fm:=if f1.sgV s cP=0 then f1.sgn s cP else let f:=f1.sgn s cP; { f.dig s with behind:=(f.digT s).size,m:=f.m++f.digT s }
def formE (s:ByteArray) (f1:Fm):Fm:=if f1.sgV s cE=0 then f1.sgn s cE else let f:=f1.sgn s cE; let g:={ f.sgn s cPM with minus:=f.sgV s cPM == 45 }; if g.bad then g else { g.dig s with exp:=g.digT s }
def formF (s:ByteArray):Fm:=if (form1 s).sgV s cS=0 then formE s (formP s ((form1 s).sgn s cS)) else formS s (form1 s)
def Okf (s:ByteArray) (f:Fm):Prop:=f.at_≤s.size
theorem Okf.sgn {s set:ByteArray} {f:Fm} (h:Okf s f):Okf s (f.sgn s set):=by
 unfold Okf Fm.sgn at *
 split
 ·rename_i hb
  unfold Fm.sgB at hb
  simp only [Bool.and_eq_true,decide_eq_true_eq] at hb
  have:=hb.1.2
  show f.at_+1≤s.size
  omega
 ·exact h
theorem Okf.dig {s:ByteArray} {f:Fm} (h:Okf s f):Okf s (f.dig s):=by
 unfold Okf Fm.dig at *
 have:=runN_le (l:=s.data.toList) (i:=f.at_) (by rw [zar]; exact h)
 rw [zar] at this
 exact this
theorem Fm.sgn_m (s set:ByteArray) (f:Fm):(f.sgn s set).m=f.m:=by unfold Fm.sgn; split<;>rfl
theorem zcu (s:ByteArray) (f:Fm):(f.digT s).size≤s.size:=by unfold Fm.digT; rw [ByteArray.size_extract]; omega
theorem FSt.set {w0 w:World} {g:Nat} {s:ByteArray} {f f':Fm} (h:FSt w0 w g s f) (j:Nat) (v:Value) (he:(f.obj s).setIfInBounds j v=f'.obj s):FSt w0 (w.setCell ⟨g,j,none⟩ v) g s f':=
 ⟨(zat h.blk j v).trans (by rw [he]),h.ge,zag h.below h.ge⟩
theorem FSt.c {w0 w:World} {g:Nat} {s:ByteArray} {f:Fm} (h:FSt w0 w g s f) (j:Nat) (v:Value) (he:(f.obj s)[j]? = some v):w.cell? ⟨g,j,none⟩=some v:=(zaf h.blk j).trans he
theorem FSt.fz {w0 w:World} {g:Nat} {s:ByteArray} {f:Fm} (h:FSt w0 w g s f) (j:Nat):w.frozen? ⟨g,j,none⟩=false:=zac h.blk j
theorem FSt.start (w:World) (s:ByteArray):FSt w (w.alloc (.cells #[.string s,.int .i64 0,.bool false,.bool false,.string ⟨#[]⟩,.int .i64 0,.string ⟨#[]⟩,.bool false,.string ⟨#[]⟩,.bool false,.int .i64 0] 139)) w.heap.size s F0:=
 ⟨(zaG w _).trans rfl,Nat.le_refl _,zaa (Below.refl _ _) _⟩
def FPost (s:ByteArray) (w:World) (e:Ending) (w':World):Prop:=∃ g,e = .returned (.tuple #[.pointer (some ⟨g,0,none⟩),.bool ((formF s).end_ s)])∧FSt w w' g s (formF s)
theorem FPost.mk' {s:ByteArray} {w w':World} {g:Nat} {f:Fm} (b:Bool) (hf:formF s=f) (hb:f.end_ s=b) (h:FSt w w' g s f):FPost s w (.returned (.tuple #[.pointer (some ⟨g,0,none⟩),.bool b])) w':=by
 subst hf; subst hb
 exact ⟨g,rfl,h⟩
theorem Fm.end_bad {s:ByteArray} {f:Fm} (h:f.bad=true):f.end_ s=false:=by unfold Fm.end_; rw [h]; rfl
theorem Fm.end_ok {s:ByteArray} {f:Fm} (h:f.bad=false):f.end_ s=((f.at_:Int) == (s.size:Int)):=by
 unfold Fm.end_
 rw [h,Bool.eq_iff_iff]
 simp only [Bool.not_false,Bool.true_and,decide_eq_true_eq,beq_iff_eq]
 omega
theorem zbS (s:ByteArray) (w:World) (hs:s.size≤65536) :
  Calls Tryz.prog 143 #[.string s] w (FPost s w):=by
 have hs2:s.size≤1099511627776:=by omega
 have H0:=FSt.start w s
 have O0:Hid (Okf s F0):=Lib.hid (Nat.zero_le _)
 go_enter Tryz.func143,Tryz.ntmps143
 go_wp2_with fail
 generalize w.alloc (.cells #[.string s,.int .i64 0,.bool false,.bool false,.string ⟨#[]⟩,.int .i64 0,.string ⟨#[]⟩,.bool false,.string ⟨#[]⟩,.bool false,.int .i64 0] 139)=wa at *
 generalize hg:w.heap.size=g at H0 ⊢
 clear hg
 have H0:=Lib.hid H0
 obtain ⟨f0,hf0⟩:∃ f0,F0=f0:=⟨_,rfl⟩
 rw [hf0] at H0 O0
 have E0:=Lib.hid hf0
 clear hf0
 refine (zce w _ g s ⟨#[45]⟩ f0 H0.out hs2 O0.out).mono ?_
 rintro e w1 ⟨rfl,h1⟩
 have O1:=Lib.hid (Okf.sgn (set:=⟨#[45]⟩) O0.out)
 obtain ⟨f1,hf1⟩:∃ f1,f0.sgn s ⟨#[45]⟩=f1:=⟨_,rfl⟩
 obtain ⟨v1,hv1⟩:∃ v1,f0.sgV s ⟨#[45]⟩=v1:=⟨_,rfl⟩
 rw [hf1] at h1 O1
 rw [hv1]
 have E1:=Lib.hid hf1
 have V1:=Lib.hid hv1
 have H1:=Lib.hid h1
 clear hf1 hv1 h1 H0
 have k3:=H1.out.c 3 (.bool f1.neg) rfl
 have z3:=H1.out.fz 3
 go_wp2_with fail
 have h2:FSt w (w1.setCell ⟨g,3,none⟩ (.bool (v1 != 0))) g s { f1 with neg:=v1 != 0 }:=H1.out.set 3 _ rfl
 clear k3 z3
 generalize w1.setCell ⟨g,3,none⟩ (.bool (v1 != 0))=w2 at *
 have O2:Hid (Okf s { f1 with neg:=v1 != 0 }):=O1
 obtain ⟨f2,hf2⟩:∃ f:Fm,{ f1 with neg:=v1 != 0 }=f:=⟨_,rfl⟩
 rw [hf2] at h2 O2
 have E2:=Lib.hid hf2
 have H2:=Lib.hid h2
 clear hf2 h2 H1
 refine (zb3 w _ g s f2 H2.out hs2 O2.out).mono ?_
 rintro e w3 ⟨rfl,h3⟩
 have O3:=Lib.hid (Okf.dig O2.out)
 obtain ⟨f3,hf3⟩:∃ f3,f2.dig s=f3:=⟨_,rfl⟩
 obtain ⟨v3,hv3⟩:∃ v3,f2.digT s=v3:=⟨_,rfl⟩
 rw [hf3] at h3 O3
 rw [hv3]
 have E3:=Lib.hid hf3
 have V3:=Lib.hid hv3
 have H3:=Lib.hid h3
 clear hf3 hv3 h3 H2
 have k4:=H3.out.c 4 (.string f3.m) rfl
 have z4:=H3.out.fz 4
 go_wp2_with fail
 have h4:FSt w (w3.setCell ⟨g,4,none⟩ (.string v3)) g s { f3 with m:=v3 }:=H3.out.set 4 _ rfl
 clear k4 z4
 generalize w3.setCell ⟨g,4,none⟩ (.string v3)=w4 at *
 have O4:Hid (Okf s { f3 with m:=v3 }):=O3
 obtain ⟨f4,hf4⟩:∃ f:Fm,{ f3 with m:=v3 }=f:=⟨_,rfl⟩
 rw [hf4] at h4 O4
 have E4:=Lib.hid hf4
 have H4:=Lib.hid h4
 clear hf4 h4 H3
 refine (zce w _ g s ⟨#[47]⟩ f4 H4.out hs2 O4.out).mono ?_
 rintro e w5 ⟨rfl,h5⟩
 have O5:=Lib.hid (Okf.sgn (set:=⟨#[47]⟩) O4.out)
 obtain ⟨f5,hf5⟩:∃ f5,f4.sgn s ⟨#[47]⟩=f5:=⟨_,rfl⟩
 obtain ⟨v5,hv5⟩:∃ v5,f4.sgV s ⟨#[47]⟩=v5:=⟨_,rfl⟩
 rw [hf5] at h5 O5
 rw [hv5]
 have E5:=Lib.hid hf5
 have V5:=Lib.hid hv5
 have H5:=Lib.hid h5
 clear hf5 hv5 h5 H4
 by_cases hS:v5=0
 ·skip
  have g5:(v5 == 0)=true:=beq_iff_eq.2 hS
  have n5:(v5 != 0)=false:=by rw [hS]; rfl
  have HS:=Lib.hid hS
  clear hS
  go_wp2_with fail
  clear g5 n5
  refine (zce w _ g s ⟨#[46]⟩ f5 H5.out hs2 O5.out).mono ?_
  rintro e w6 ⟨rfl,h6⟩
  have O6:=Lib.hid (Okf.sgn (set:=⟨#[46]⟩) O5.out)
  obtain ⟨f6,hf6⟩:∃ f6,f5.sgn s ⟨#[46]⟩=f6:=⟨_,rfl⟩
  obtain ⟨v6,hv6⟩:∃ v6,f5.sgV s ⟨#[46]⟩=v6:=⟨_,rfl⟩
  rw [hf6] at h6 O6
  rw [hv6]
  have E6:=Lib.hid hf6
  have V6:=Lib.hid hv6
  have H6:=Lib.hid h6
  clear hf6 hv6 h6 H5
  by_cases hP:v6=0
  ·skip
   have g6:(v6 == 0)=true:=beq_iff_eq.2 hP
   have n6:(v6 != 0)=false:=by rw [hP]; rfl
   have HP:=Lib.hid hP
   clear hP
   go_wp2_with fail
   clear g6 n6
   refine (zce w _ g s ⟨#[101,69]⟩ f6 H6.out hs2 O6.out).mono ?_
   rintro e w7 ⟨rfl,h7⟩
   have O7:=Lib.hid (Okf.sgn (set:=⟨#[101,69]⟩) O6.out)
   obtain ⟨f7,hf7⟩:∃ f7,f6.sgn s ⟨#[101,69]⟩=f7:=⟨_,rfl⟩
   obtain ⟨v7,hv7⟩:∃ v7,f6.sgV s ⟨#[101,69]⟩=v7:=⟨_,rfl⟩
   rw [hf7] at h7 O7
   rw [hv7]
   have E7:=Lib.hid hf7
   have V7:=Lib.hid hv7
   have H7:=Lib.hid h7
   clear hf7 hv7 h7 H6
   by_cases hE:v7=0
   ·skip
    have g7:(v7 == 0)=true:=beq_iff_eq.2 hE
    have n7:(v7 != 0)=false:=by rw [hE]; rfl
    have HE:=Lib.hid hE
    clear hE
    go_wp2
    clear g7 n7
    have k1:=H7.out.c 1 (.int .i64 f7.at_) rfl
    have k2:=H7.out.c 2 (.bool f7.bad) rfl
    obtain ⟨b,hb⟩:∃ b,f7.bad=b:=⟨_,rfl⟩
    rw [hb] at k2
    have HB:=Lib.hid hb
    clear hb
    cases b
    ·go_quiet (fail)
     go_wp2
     go_ret2
     refine FPost.mk' _ ?_ (Fm.end_ok HB.out) (H7.out.drewN _)
     obtain rfl:=E7.out
     obtain rfl:=V7.out
     obtain rfl:=E6.out
     obtain rfl:=V6.out
     obtain rfl:=E5.out
     obtain rfl:=V5.out
     obtain rfl:=E4.out
     obtain rfl:=E3.out
     obtain rfl:=V3.out
     obtain rfl:=E2.out
     obtain rfl:=E1.out
     obtain rfl:=V1.out
     obtain rfl:=E0.out
     exact (if_pos HS.out).trans ((congrArg (formE s) (if_pos HP.out)).trans (if_pos HE.out))
    ·go_quiet (fail)
     go_wp2
     go_ret2
     refine FPost.mk' _ ?_ (Fm.end_bad HB.out) (H7.out.drewN _)
     obtain rfl:=E7.out
     obtain rfl:=V7.out
     obtain rfl:=E6.out
     obtain rfl:=V6.out
     obtain rfl:=E5.out
     obtain rfl:=V5.out
     obtain rfl:=E4.out
     obtain rfl:=E3.out
     obtain rfl:=V3.out
     obtain rfl:=E2.out
     obtain rfl:=E1.out
     obtain rfl:=V1.out
     obtain rfl:=E0.out
     exact (if_pos HS.out).trans ((congrArg (formE s) (if_pos HP.out)).trans (if_pos HE.out))
   ·skip
    have g7:(v7 == 0)=false:=beq_eq_false_iff_ne.2 hE
    have n7:(v7 != 0)=true:=by simpa using hE
    have HE:=Lib.hid hE
    clear hE
    go_wp2_with fail
    clear g7 n7
    refine (zce w _ g s ⟨#[43,45]⟩ f7 H7.out hs2 O7.out).mono ?_
    rintro e w8 ⟨rfl,h8⟩
    have O8:=Lib.hid (Okf.sgn (set:=⟨#[43,45]⟩) O7.out)
    obtain ⟨f8,hf8⟩:∃ f8,f7.sgn s ⟨#[43,45]⟩=f8:=⟨_,rfl⟩
    obtain ⟨v8,hv8⟩:∃ v8,f7.sgV s ⟨#[43,45]⟩=v8:=⟨_,rfl⟩
    rw [hf8] at h8 O8
    rw [hv8]
    have E8:=Lib.hid hf8
    have V8:=Lib.hid hv8
    have H8:=Lib.hid h8
    clear hf8 hv8 h8 H7
    have k7:=H8.out.c 7 (.bool f8.minus) rfl
    have z7:=H8.out.fz 7
    have h9:FSt w (w8.setCell ⟨g,7,none⟩ (.bool (v8 == 45))) g s { f8 with minus:=v8 == 45 }:=H8.out.set 7 _ rfl
    have O9:Hid (Okf s { f8 with minus:=v8 == 45 }):=O8
    obtain ⟨f9,hf9⟩:∃ f:Fm,{ f8 with minus:=v8 == 45 }=f:=⟨_,rfl⟩
    rw [hf9] at h9 O9
    have E9:=Lib.hid hf9
    have k2:=h9.c 2 (.bool f9.bad) rfl
    have H9:=Lib.hid h9
    clear hf9 h9 H8
    obtain ⟨b,hb⟩:∃ b,f9.bad=b:=⟨_,rfl⟩
    rw [hb] at k2
    have HB:=Lib.hid hb
    clear hb
    cases b
    ·go_wp2_with fail
     clear k2 k7 z7
     generalize w8.setCell ⟨g,7,none⟩ (.bool (v8 == 45))=w9 at *
     have HBF:=HB
     refine (zb3 w _ g s f9 H9.out hs2 O9.out).mono ?_
     rintro e w10 ⟨rfl,h10⟩
     have O10:=Lib.hid (Okf.dig O9.out)
     obtain ⟨f10,hf10⟩:∃ f10,f9.dig s=f10:=⟨_,rfl⟩
     obtain ⟨v10,hv10⟩:∃ v10,f9.digT s=v10:=⟨_,rfl⟩
     rw [hf10] at h10 O10
     rw [hv10]
     have E10:=Lib.hid hf10
     have V10:=Lib.hid hv10
     have H10:=Lib.hid h10
     clear hf10 hv10 h10 H9
     have k6:=H10.out.c 6 (.string f10.exp) rfl
     have z6:=H10.out.fz 6
     go_wp2
     have h11:FSt w (w10.setCell ⟨g,6,none⟩ (.string v10)) g s { f10 with exp:=v10 }:=H10.out.set 6 _ rfl
     clear k6 z6
     generalize w10.setCell ⟨g,6,none⟩ (.string v10)=w11 at *
     obtain ⟨f11,hf11⟩:∃ f:Fm,{ f10 with exp:=v10 }=f:=⟨_,rfl⟩
     rw [hf11] at h11
     have E11:=Lib.hid hf11
     have H11:=Lib.hid h11
     clear hf11 h11 H10 HB
     have k1:=H11.out.c 1 (.int .i64 f11.at_) rfl
     have k2:=H11.out.c 2 (.bool f11.bad) rfl
     obtain ⟨b,hb⟩:∃ b,f11.bad=b:=⟨_,rfl⟩
     rw [hb] at k2
     have HB:=Lib.hid hb
     clear hb
     cases b
     ·go_quiet (fail)
      go_wp2
      go_ret2
      refine FPost.mk' _ ?_ (Fm.end_ok HB.out) (H11.out.drewN _)
      obtain rfl:=E11.out
      obtain rfl:=E10.out
      obtain rfl:=V10.out
      obtain rfl:=E9.out
      obtain rfl:=E8.out
      obtain rfl:=V8.out
      obtain rfl:=E7.out
      obtain rfl:=V7.out
      obtain rfl:=E6.out
      obtain rfl:=V6.out
      obtain rfl:=E5.out
      obtain rfl:=V5.out
      obtain rfl:=E4.out
      obtain rfl:=E3.out
      obtain rfl:=V3.out
      obtain rfl:=E2.out
      obtain rfl:=E1.out
      obtain rfl:=V1.out
      obtain rfl:=E0.out
      exact (if_pos HS.out).trans ((congrArg (formE s) (if_pos HP.out)).trans ((if_neg HE.out).trans (if_neg (fun hb=>by have:=HBF.out; exact absurd (hb.symm.trans this) (by decide)))))
     ·go_quiet (fail)
      go_wp2
      go_ret2
      refine FPost.mk' _ ?_ (Fm.end_bad HB.out) (H11.out.drewN _)
      obtain rfl:=E11.out
      obtain rfl:=E10.out
      obtain rfl:=V10.out
      obtain rfl:=E9.out
      obtain rfl:=E8.out
      obtain rfl:=V8.out
      obtain rfl:=E7.out
      obtain rfl:=V7.out
      obtain rfl:=E6.out
      obtain rfl:=V6.out
      obtain rfl:=E5.out
      obtain rfl:=V5.out
      obtain rfl:=E4.out
      obtain rfl:=E3.out
      obtain rfl:=V3.out
      obtain rfl:=E2.out
      obtain rfl:=E1.out
      obtain rfl:=V1.out
      obtain rfl:=E0.out
      exact (if_pos HS.out).trans ((congrArg (formE s) (if_pos HP.out)).trans ((if_neg HE.out).trans (if_neg (fun hb=>by have:=HBF.out; exact absurd (hb.symm.trans this) (by decide)))))
    ·go_wp2
     clear k2 k7 z7
     generalize w8.setCell ⟨g,7,none⟩ (.bool (v8 == 45))=w9 at *
     have HBF:=HB
     clear HB
     have k1:=H9.out.c 1 (.int .i64 f9.at_) rfl
     have k2:=H9.out.c 2 (.bool f9.bad) rfl
     obtain ⟨b,hb⟩:∃ b,f9.bad=b:=⟨_,rfl⟩
     rw [hb] at k2
     have HB:=Lib.hid hb
     clear hb
     cases b
     ·go_quiet (fail)
      go_wp2
      go_ret2
      refine FPost.mk' _ ?_ (Fm.end_ok HB.out) (H9.out.drewN _)
      obtain rfl:=E9.out
      obtain rfl:=E8.out
      obtain rfl:=V8.out
      obtain rfl:=E7.out
      obtain rfl:=V7.out
      obtain rfl:=E6.out
      obtain rfl:=V6.out
      obtain rfl:=E5.out
      obtain rfl:=V5.out
      obtain rfl:=E4.out
      obtain rfl:=E3.out
      obtain rfl:=V3.out
      obtain rfl:=E2.out
      obtain rfl:=E1.out
      obtain rfl:=V1.out
      obtain rfl:=E0.out
      exact (if_pos HS.out).trans ((congrArg (formE s) (if_pos HP.out)).trans ((if_neg HE.out).trans (if_pos HBF.out)))
     ·go_quiet (fail)
      go_wp2
      go_ret2
      refine FPost.mk' _ ?_ (Fm.end_bad HB.out) (H9.out.drewN _)
      obtain rfl:=E9.out
      obtain rfl:=E8.out
      obtain rfl:=V8.out
      obtain rfl:=E7.out
      obtain rfl:=V7.out
      obtain rfl:=E6.out
      obtain rfl:=V6.out
      obtain rfl:=E5.out
      obtain rfl:=V5.out
      obtain rfl:=E4.out
      obtain rfl:=E3.out
      obtain rfl:=V3.out
      obtain rfl:=E2.out
      obtain rfl:=E1.out
      obtain rfl:=V1.out
      obtain rfl:=E0.out
      exact (if_pos HS.out).trans ((congrArg (formE s) (if_pos HP.out)).trans ((if_neg HE.out).trans (if_pos HBF.out)))
  ·skip
   have g6:(v6 == 0)=false:=beq_eq_false_iff_ne.2 hP
   have n6:(v6 != 0)=true:=by simpa using hP
   have HP:=Lib.hid hP
   clear hP
   go_wp2_with fail
   clear g6 n6
   refine (zb3 w _ g s f6 H6.out hs2 O6.out).mono ?_
   rintro e w7 ⟨rfl,h7⟩
   have O7:=Lib.hid (Okf.dig O6.out)
   obtain ⟨f7,hf7⟩:∃ f7,f6.dig s=f7:=⟨_,rfl⟩
   obtain ⟨v7,hv7⟩:∃ v7,f6.digT s=v7:=⟨_,rfl⟩
   rw [hf7] at h7 O7
   rw [hv7]
   have E7:=Lib.hid hf7
   have V7:=Lib.hid hv7
   have H7:=Lib.hid h7
   clear hf7 hv7 h7 H6
   have k4:=H7.out.c 4 (.string f7.m) rfl
   have k5:=H7.out.c 5 (.int .i64 f7.behind) rfl
   have z4:=H7.out.fz 4
   have z5:=H7.out.fz 5
   have hv3:v3.size≤s.size:=by rw [←V3.out]; exact zcu _ _
   have hv7:v7.size≤s.size:=by rw [←V7.out]; exact zcu _ _
   have hm:f7.m=v3:=by
    obtain rfl:=E7.out
    obtain rfl:=E6.out
    obtain rfl:=E5.out
    obtain rfl:=E4.out
    show (Fm.sgn s ⟨#[46]⟩ (Fm.sgn s ⟨#[47]⟩ _)).m=_
    rw [Fm.sgn_m,Fm.sgn_m]
   rw [hm] at k4
   have HM:=Lib.hid hm
   clear hm
   have hsz:v3.size+v7.size≤9223372036854775807:=by omega
   go_wp2_with fail
   clear k4 k5 z4 z5 hsz
   have h8:FSt w ((w7.setCell ⟨g,5,none⟩ (.int .i64 (v7.size:Int))).setCell ⟨g,4,none⟩ (.string (v3++v7))) g s { f7 with behind:=v7.size,m:=f7.m++v7 }:=(FSt.set (f':={ f7 with behind:=v7.size }) H7.out 5 _ rfl).set 4 _ (by rw [HM.out]; rfl)
   generalize (w7.setCell ⟨g,5,none⟩ (.int .i64 (v7.size:Int))).setCell ⟨g,4,none⟩ (.string (v3++v7))=w8 at *
   have O8:Hid (Okf s { f7 with behind:=v7.size,m:=f7.m++v7 }):=O7
   obtain ⟨f8,hf8⟩:∃ f:Fm,{ f7 with behind:=v7.size,m:=f7.m++v7 }=f:=⟨_,rfl⟩
   rw [hf8] at h8 O8
   have E8:=Lib.hid hf8
   have H8:=Lib.hid h8
   clear hf8 h8 H7 HM hv3 hv7
   refine (zce w _ g s ⟨#[101,69]⟩ f8 H8.out hs2 O8.out).mono ?_
   rintro e w9 ⟨rfl,h9⟩
   have O9:=Lib.hid (Okf.sgn (set:=⟨#[101,69]⟩) O8.out)
   obtain ⟨f9,hf9⟩:∃ f9,f8.sgn s ⟨#[101,69]⟩=f9:=⟨_,rfl⟩
   obtain ⟨v9,hv9⟩:∃ v9,f8.sgV s ⟨#[101,69]⟩=v9:=⟨_,rfl⟩
   rw [hf9] at h9 O9
   rw [hv9]
   have E9:=Lib.hid hf9
   have V9:=Lib.hid hv9
   have H9:=Lib.hid h9
   clear hf9 hv9 h9 H8
   by_cases hE:v9=0
   ·skip
    have g9:(v9 == 0)=true:=beq_iff_eq.2 hE
    have n9:(v9 != 0)=false:=by rw [hE]; rfl
    have HE:=Lib.hid hE
    clear hE
    go_wp2
    clear g9 n9
    have k1:=H9.out.c 1 (.int .i64 f9.at_) rfl
    have k2:=H9.out.c 2 (.bool f9.bad) rfl
    obtain ⟨b,hb⟩:∃ b,f9.bad=b:=⟨_,rfl⟩
    rw [hb] at k2
    have HB:=Lib.hid hb
    clear hb
    cases b
    ·go_quiet (fail)
     go_wp2
     go_ret2
     refine FPost.mk' _ ?_ (Fm.end_ok HB.out) (H9.out.drewN _)
     obtain rfl:=E9.out
     obtain rfl:=V9.out
     obtain rfl:=E8.out
     obtain rfl:=E7.out
     obtain rfl:=V7.out
     obtain rfl:=E6.out
     obtain rfl:=V6.out
     obtain rfl:=E5.out
     obtain rfl:=V5.out
     obtain rfl:=E4.out
     obtain rfl:=E3.out
     obtain rfl:=V3.out
     obtain rfl:=E2.out
     obtain rfl:=E1.out
     obtain rfl:=V1.out
     obtain rfl:=E0.out
     exact (if_pos HS.out).trans ((congrArg (formE s) (if_neg HP.out)).trans (if_pos HE.out))
    ·go_quiet (fail)
     go_wp2
     go_ret2
     refine FPost.mk' _ ?_ (Fm.end_bad HB.out) (H9.out.drewN _)
     obtain rfl:=E9.out
     obtain rfl:=V9.out
     obtain rfl:=E8.out
     obtain rfl:=E7.out
     obtain rfl:=V7.out
     obtain rfl:=E6.out
     obtain rfl:=V6.out
     obtain rfl:=E5.out
     obtain rfl:=V5.out
     obtain rfl:=E4.out
     obtain rfl:=E3.out
     obtain rfl:=V3.out
     obtain rfl:=E2.out
     obtain rfl:=E1.out
     obtain rfl:=V1.out
     obtain rfl:=E0.out
     exact (if_pos HS.out).trans ((congrArg (formE s) (if_neg HP.out)).trans (if_pos HE.out))
   ·skip
    have g9:(v9 == 0)=false:=beq_eq_false_iff_ne.2 hE
    have n9:(v9 != 0)=true:=by simpa using hE
    have HE:=Lib.hid hE
    clear hE
    go_wp2_with fail
    clear g9 n9
    refine (zce w _ g s ⟨#[43,45]⟩ f9 H9.out hs2 O9.out).mono ?_
    rintro e w10 ⟨rfl,h10⟩
    have O10:=Lib.hid (Okf.sgn (set:=⟨#[43,45]⟩) O9.out)
    obtain ⟨f10,hf10⟩:∃ f10,f9.sgn s ⟨#[43,45]⟩=f10:=⟨_,rfl⟩
    obtain ⟨v10,hv10⟩:∃ v10,f9.sgV s ⟨#[43,45]⟩=v10:=⟨_,rfl⟩
    rw [hf10] at h10 O10
    rw [hv10]
    have E10:=Lib.hid hf10
    have V10:=Lib.hid hv10
    have H10:=Lib.hid h10
    clear hf10 hv10 h10 H9
    have k7:=H10.out.c 7 (.bool f10.minus) rfl
    have z7:=H10.out.fz 7
    have h11:FSt w (w10.setCell ⟨g,7,none⟩ (.bool (v10 == 45))) g s { f10 with minus:=v10 == 45 }:=H10.out.set 7 _ rfl
    have O11:Hid (Okf s { f10 with minus:=v10 == 45 }):=O10
    obtain ⟨f11,hf11⟩:∃ f:Fm,{ f10 with minus:=v10 == 45 }=f:=⟨_,rfl⟩
    rw [hf11] at h11 O11
    have E11:=Lib.hid hf11
    have k2:=h11.c 2 (.bool f11.bad) rfl
    have H11:=Lib.hid h11
    clear hf11 h11 H10
    obtain ⟨b,hb⟩:∃ b,f11.bad=b:=⟨_,rfl⟩
    rw [hb] at k2
    have HB:=Lib.hid hb
    clear hb
    cases b
    ·go_wp2_with fail
     clear k2 k7 z7
     generalize w10.setCell ⟨g,7,none⟩ (.bool (v10 == 45))=w11 at *
     have HBF:=HB
     refine (zb3 w _ g s f11 H11.out hs2 O11.out).mono ?_
     rintro e w12 ⟨rfl,h12⟩
     have O12:=Lib.hid (Okf.dig O11.out)
     obtain ⟨f12,hf12⟩:∃ f12,f11.dig s=f12:=⟨_,rfl⟩
     obtain ⟨v12,hv12⟩:∃ v12,f11.digT s=v12:=⟨_,rfl⟩
     rw [hf12] at h12 O12
     rw [hv12]
     have E12:=Lib.hid hf12
     have V12:=Lib.hid hv12
     have H12:=Lib.hid h12
     clear hf12 hv12 h12 H11
     have k6:=H12.out.c 6 (.string f12.exp) rfl
     have z6:=H12.out.fz 6
     go_wp2
     have h13:FSt w (w12.setCell ⟨g,6,none⟩ (.string v12)) g s { f12 with exp:=v12 }:=H12.out.set 6 _ rfl
     clear k6 z6
     generalize w12.setCell ⟨g,6,none⟩ (.string v12)=w13 at *
     obtain ⟨f13,hf13⟩:∃ f:Fm,{ f12 with exp:=v12 }=f:=⟨_,rfl⟩
     rw [hf13] at h13
     have E13:=Lib.hid hf13
     have H13:=Lib.hid h13
     clear hf13 h13 H12 HB
     have k1:=H13.out.c 1 (.int .i64 f13.at_) rfl
     have k2:=H13.out.c 2 (.bool f13.bad) rfl
     obtain ⟨b,hb⟩:∃ b,f13.bad=b:=⟨_,rfl⟩
     rw [hb] at k2
     have HB:=Lib.hid hb
     clear hb
     cases b
     ·go_quiet (fail)
      go_wp2
      go_ret2
      refine FPost.mk' _ ?_ (Fm.end_ok HB.out) (H13.out.drewN _)
      obtain rfl:=E13.out
      obtain rfl:=E12.out
      obtain rfl:=V12.out
      obtain rfl:=E11.out
      obtain rfl:=E10.out
      obtain rfl:=V10.out
      obtain rfl:=E9.out
      obtain rfl:=V9.out
      obtain rfl:=E8.out
      obtain rfl:=E7.out
      obtain rfl:=V7.out
      obtain rfl:=E6.out
      obtain rfl:=V6.out
      obtain rfl:=E5.out
      obtain rfl:=V5.out
      obtain rfl:=E4.out
      obtain rfl:=E3.out
      obtain rfl:=V3.out
      obtain rfl:=E2.out
      obtain rfl:=E1.out
      obtain rfl:=V1.out
      obtain rfl:=E0.out
      exact (if_pos HS.out).trans ((congrArg (formE s) (if_neg HP.out)).trans ((if_neg HE.out).trans (if_neg (fun hb=>by have:=HBF.out; exact absurd (hb.symm.trans this) (by decide)))))
     ·go_quiet (fail)
      go_wp2
      go_ret2
      refine FPost.mk' _ ?_ (Fm.end_bad HB.out) (H13.out.drewN _)
      obtain rfl:=E13.out
      obtain rfl:=E12.out
      obtain rfl:=V12.out
      obtain rfl:=E11.out
      obtain rfl:=E10.out
      obtain rfl:=V10.out
      obtain rfl:=E9.out
      obtain rfl:=V9.out
      obtain rfl:=E8.out
      obtain rfl:=E7.out
      obtain rfl:=V7.out
      obtain rfl:=E6.out
      obtain rfl:=V6.out
      obtain rfl:=E5.out
      obtain rfl:=V5.out
      obtain rfl:=E4.out
      obtain rfl:=E3.out
      obtain rfl:=V3.out
      obtain rfl:=E2.out
      obtain rfl:=E1.out
      obtain rfl:=V1.out
      obtain rfl:=E0.out
      exact (if_pos HS.out).trans ((congrArg (formE s) (if_neg HP.out)).trans ((if_neg HE.out).trans (if_neg (fun hb=>by have:=HBF.out; exact absurd (hb.symm.trans this) (by decide)))))
    ·go_wp2
     clear k2 k7 z7
     generalize w10.setCell ⟨g,7,none⟩ (.bool (v10 == 45))=w11 at *
     have HBF:=HB
     clear HB
     have k1:=H11.out.c 1 (.int .i64 f11.at_) rfl
     have k2:=H11.out.c 2 (.bool f11.bad) rfl
     obtain ⟨b,hb⟩:∃ b,f11.bad=b:=⟨_,rfl⟩
     rw [hb] at k2
     have HB:=Lib.hid hb
     clear hb
     cases b
     ·go_quiet (fail)
      go_wp2
      go_ret2
      refine FPost.mk' _ ?_ (Fm.end_ok HB.out) (H11.out.drewN _)
      obtain rfl:=E11.out
      obtain rfl:=E10.out
      obtain rfl:=V10.out
      obtain rfl:=E9.out
      obtain rfl:=V9.out
      obtain rfl:=E8.out
      obtain rfl:=E7.out
      obtain rfl:=V7.out
      obtain rfl:=E6.out
      obtain rfl:=V6.out
      obtain rfl:=E5.out
      obtain rfl:=V5.out
      obtain rfl:=E4.out
      obtain rfl:=E3.out
      obtain rfl:=V3.out
      obtain rfl:=E2.out
      obtain rfl:=E1.out
      obtain rfl:=V1.out
      obtain rfl:=E0.out
      exact (if_pos HS.out).trans ((congrArg (formE s) (if_neg HP.out)).trans ((if_neg HE.out).trans (if_pos HBF.out)))
     ·go_quiet (fail)
      go_wp2
      go_ret2
      refine FPost.mk' _ ?_ (Fm.end_bad HB.out) (H11.out.drewN _)
      obtain rfl:=E11.out
      obtain rfl:=E10.out
      obtain rfl:=V10.out
      obtain rfl:=E9.out
      obtain rfl:=V9.out
      obtain rfl:=E8.out
      obtain rfl:=E7.out
      obtain rfl:=V7.out
      obtain rfl:=E6.out
      obtain rfl:=V6.out
      obtain rfl:=E5.out
      obtain rfl:=V5.out
      obtain rfl:=E4.out
      obtain rfl:=E3.out
      obtain rfl:=V3.out
      obtain rfl:=E2.out
      obtain rfl:=E1.out
      obtain rfl:=V1.out
      obtain rfl:=E0.out
      exact (if_pos HS.out).trans ((congrArg (formE s) (if_neg HP.out)).trans ((if_neg HE.out).trans (if_pos HBF.out)))
 ·skip
  have g5:(v5 == 0)=false:=beq_eq_false_iff_ne.2 hS
  have n5:(v5 != 0)=true:=by simpa using hS
  have HS:=Lib.hid hS
  clear hS
  have k1:=H5.out.c 1 (.int .i64 f5.at_) rfl
  have k9:=H5.out.c 9 (.bool f5.fraction) rfl
  have k10:=H5.out.c 10 (.int .i64 f5.slash) rfl
  have z9:=H5.out.fz 9
  have z10:=H5.out.fz 10
  go_wp2_with fail
  clear g5 n5
  clear k1 k9 k10 z9 z10
  have h6:FSt w ((w5.setCell ⟨g,9,none⟩ (.bool true)).setCell ⟨g,10,none⟩ (.int .i64 f5.at_)) g s { f5 with fraction:=true,slash:=f5.at_ }:=(FSt.set (f':={ f5 with fraction:=true }) H5.out 9 _ rfl).set 10 _ rfl
  generalize (w5.setCell ⟨g,9,none⟩ (.bool true)).setCell ⟨g,10,none⟩ (.int .i64 f5.at_)=w6 at *
  have O6:Hid (Okf s { f5 with fraction:=true,slash:=f5.at_ }):=O5
  obtain ⟨f6,hf6⟩:∃ f:Fm,{ f5 with fraction:=true,slash:=f5.at_ }=f:=⟨_,rfl⟩
  rw [hf6] at h6 O6
  have E6:=Lib.hid hf6
  have H6:=Lib.hid h6
  clear hf6 h6 H5
  refine (zb3 w _ g s f6 H6.out hs2 O6.out).mono ?_
  rintro e w7 ⟨rfl,h7⟩
  have O7:=Lib.hid (Okf.dig O6.out)
  obtain ⟨f7,hf7⟩:∃ f7,f6.dig s=f7:=⟨_,rfl⟩
  obtain ⟨v7,hv7⟩:∃ v7,f6.digT s=v7:=⟨_,rfl⟩
  rw [hf7] at h7 O7
  rw [hv7]
  have E7:=Lib.hid hf7
  have V7:=Lib.hid hv7
  have H7:=Lib.hid h7
  clear hf7 hv7 h7 H6
  have k8:=H7.out.c 8 (.string f7.den) rfl
  have z8:=H7.out.fz 8
  go_wp2
  have h8:FSt w (w7.setCell ⟨g,8,none⟩ (.string v7)) g s { f7 with den:=v7 }:=H7.out.set 8 _ rfl
  clear k8 z8
  generalize w7.setCell ⟨g,8,none⟩ (.string v7)=w8 at *
  obtain ⟨f8,hf8⟩:∃ f:Fm,{ f7 with den:=v7 }=f:=⟨_,rfl⟩
  rw [hf8] at h8
  have E8:=Lib.hid hf8
  have H8:=Lib.hid h8
  clear hf8 h8 H7
  have k1:=H8.out.c 1 (.int .i64 f8.at_) rfl
  have k2:=H8.out.c 2 (.bool f8.bad) rfl
  obtain ⟨b,hb⟩:∃ b,f8.bad=b:=⟨_,rfl⟩
  rw [hb] at k2
  have HB:=Lib.hid hb
  clear hb
  cases b
  ·go_quiet (fail)
   go_wp2
   go_ret2
   refine FPost.mk' _ ?_ (Fm.end_ok HB.out) (H8.out.drewN _)
   obtain rfl:=E8.out
   obtain rfl:=E7.out
   obtain rfl:=V7.out
   obtain rfl:=E6.out
   obtain rfl:=E5.out
   obtain rfl:=V5.out
   obtain rfl:=E4.out
   obtain rfl:=E3.out
   obtain rfl:=V3.out
   obtain rfl:=E2.out
   obtain rfl:=E1.out
   obtain rfl:=V1.out
   obtain rfl:=E0.out
   exact if_neg HS.out
  ·go_quiet (fail)
   go_wp2
   go_ret2
   refine FPost.mk' _ ?_ (Fm.end_bad HB.out) (H8.out.drewN _)
   obtain rfl:=E8.out
   obtain rfl:=E7.out
   obtain rfl:=V7.out
   obtain rfl:=E6.out
   obtain rfl:=E5.out
   obtain rfl:=V5.out
   obtain rfl:=E4.out
   obtain rfl:=E3.out
   obtain rfl:=V3.out
   obtain rfl:=E2.out
   obtain rfl:=E1.out
   obtain rfl:=V1.out
   obtain rfl:=E0.out
   exact if_neg HS.out
end Go.Proofs.P9
end
section
set_option linter.unusedVariables false
namespace Go.Proofs.P9
open Go.RowKit Go.Proofs.W9.Wa
theorem zcG (l:List UInt8):dval (l.dropWhile (· == 48))=dval l:=by
 induction l with
 | nil=>rfl
 | cons c t ih =>
  rw [List.dropWhile_cons]
  by_cases h:c=48
  ·subst h
   rw [if_pos (by decide),ih,zb2]
   have:(48:UInt8).toNat=48:=rfl
   rw [this]; omega
  ·rw [if_neg (by simpa using h)]
theorem dig_dropWhile {l:List UInt8} (h:Dig l):Dig (l.dropWhile (· == 48)):=fun c hc=>h c ((List.dropWhile_suffix _).subset hc)
theorem bare_text {l:List UInt8} (h:Dig l) (hn:l.dropWhile (· == 48) ≠ []):(⟨(l.dropWhile (· == 48)).toArray⟩:ByteArray)=T (dval l):=by
 have hc:Can (l.dropWhile (· == 48)):=by
  refine ⟨List.length_pos_iff.2 hn,dig_dropWhile h,fun e => ?_⟩
  exfalso
  have hh:=List.head?_dropWhile_not (fun c:UInt8=>c == 48) l
  rw [e] at hh
  simp at hh
 have:=zdd _ _ rfl hc
 rw [zcG] at this
 unfold T
 rw [this]
theorem zaS (s:ByteArray) (w:World) (hd:Dig s.data.toList) :
  Calls Tryz.prog 144 #[.string s] w fun e w'=>e = .returned (.string (T (dval s.data.toList)))∧w=w':=by
 have HT:=fun W=>Tryz.strings_TrimLeft_one s 48 (by decide) W
 unfold Lib.trimLeftB at HT
 by_cases hn:s.data.toList.dropWhile (· == 48) = []
 ·have hv:dval s.data.toList=0:=by rw [←zcG,hn]; rfl
  have HV:=Lib.hid hv
  rw [hn] at HT
  have e0:(⟨([]:List UInt8).toArray⟩:ByteArray)=⟨#[]⟩:=rfl
  rw [e0] at HT
  clear hn hv hd e0
  go_enter Tryz.func144,Tryz.ntmps144
  go_wp2_with fail
  refine (HT _).mono ?_
  rintro e w' ⟨rfl,rfl⟩
  go_wp2
  go_ret
  exact ⟨by rw [HV.out]; unfold T; rw [zbq (by decide)]; rfl,rfl⟩
 ·rw [bare_text hd hn] at HT
  have hne:(T (dval s.data.toList)).toList.isEmpty=false:=by
   rw [Q9.ba_toList]
   have:=zbf (dval s.data.toList)
   rw [←zar] at this
   cases h:(T (dval s.data.toList)).data.toList
   ·rw [h] at this; simp at this
   ·rfl
  have hne2:((T (dval s.data.toList)).toList == ([]:List UInt8))=false:=by
   rw [beq_eq_false_iff_ne]
   intro e
   rw [e] at hne
   simp at hne
  clear hn hd
  generalize T (dval s.data.toList)=t at *
  go_enter Tryz.func144,Tryz.ntmps144
  go_wp2_with fail
  refine (HT _).mono ?_
  rintro e w' ⟨rfl,rfl⟩
  go_wp2
  go_ret
  exact ⟨rfl,rfl⟩
theorem zbm (n:Nat) (w:World) (h:(T n).size≤1048576) :
  Calls Tryz.prog 145 #[.string (T n)] w fun e w'=>∃ D,e = .returned (.pointer (some ⟨D,0,none⟩))∧w.heap.size≤D∧IntAt w' D 0 n∧Below w.heap.size w w':=by
 have hu105:=Tryz.underlying105
 have hnew:=IntAt.new w 105 (by decide)
 have hba:=zaa (Below.refl w.heap.size w) (.cells #[.bool false,.slice none 0 0] 105)
 have hp:=zbf n
 go_enter Tryz.func145,Tryz.ntmps145
 go_wp2_with fail
 refine (zcL w.heap.size 0 (T n) _ _ hnew.slot (dig_T n) hp h).mono ?_
 rintro e w2 ⟨rfl,hx2,hu2⟩
 rw [zbO] at hx2
 have hb2:=hu2.new hba (Nat.le_refl _)
 go_wp2
 go_ret
 exact ⟨_,rfl,Nat.le_refl _,hx2,hb2⟩
theorem dval_take_le (l:List UInt8) (i:Nat):dval (l.take i)≤dval l:=by
 have h:=zbr (l.take i) (l.drop i)
 rw [List.take_append_drop] at h
 rw [h]
 have:dval (l.take i)*1≤dval (l.take i)*10^(l.drop i).length:=Nat.mul_le_mul_left _ (Nat.pow_pos (by decide))
 omega
def natI (n:Nat):Int×Int:=if n<18446744073709551616 then ((n:Int),0) else (0,7)
theorem zcN (n:Nat) (w:World) (h:n<10^600) :
  Calls Tryz.prog 214 #[.string (T n)] w fun e w'=>e = .returned (.tuple #[.int .u64 (natI n).1,.int .i64 (natI n).2])∧Below w.heap.size w w':=by
 have HR:=fun W=>zbJ (T n) W
 rw [right_iff.2 ⟨n,rfl,h⟩] at HR
 have hs:(T n).size≤600:=(zaF (by decide)).2 h
 have HD:=Lib.hid (dig_T n)
 have HN:=Lib.hid (zbO n)
 clear h
 generalize T n=s at *
 have kb:=fun W=>print_bytes (P:=Tryz.prog) 9 95 5 Tryz.underlying9 Tryz.underlying95 Tryz.underlying5 s W
 go_enter Tryz.func214,Tryz.ntmps214
 go_wp2_with fail
 refine (HR _).mono ?_
 rintro e w1 ⟨rfl,hd⟩
 have hb1:=zcg hd
 have hrd:=bytes_reads w1 5 s (by omega)
 have hb2:=bthen hb1 (bytes_below (Below.refl w1.heap.size w1) (Nat.le_refl _) 5 s)
 have HRD:=Lib.hid hrd
 clear hd hrd hb1
 have hcell:∀ j (hj:j<s.data.toList.length),(Lib.bytesWorld w1 5 s).cell? ⟨w1.heap.size,j,none⟩=some (.int .u8 ((s.data.toList[j].toNat:Nat):Int)):=fun j hj=>by
  obtain ⟨ad,he,hc⟩:=HRD.out.2.2 (by rw [zar] at hj; omega)
  injection he with he
  subst he
  have:=hc j (by rw [zar] at hj; omega)
  rw [zbp] at this
  rw [this]
  simp [bytesOf,List.getD_eq_getElem?_getD,List.getElem?_eq_getElem hj]
 have HC:=Lib.hid hcell
 clear hcell HRD
 go_wp2
 generalize Lib.bytesWorld w1 5 s=wb at *
 generalize w1.heap.size=bb at *
 go_loop [4,14] (fun va vi=>∃ i:Nat,i≤s.size∧vi = .int .i64 i∧va = .int .u64 ((dval (s.data.toList.take i):Nat):Int)∧dval (s.data.toList.take i)<18446744073709551616) (fun _ vi=>s.size-(intOf vi).toNat)
 case atStart=>exact ⟨0,Nat.zero_le _,rfl,rfl,show 0<_ by decide⟩
 case round =>
  obtain ⟨i,hi,rfl,rfl,hacc⟩:=hrel
  by_cases hlt:i<s.size
  ·have hil:i<s.data.toList.length:=by rw [zar]; exact hlt
   have hc:=HC.out i hil
   have hdd:=HD.out _ (List.getElem_mem hil)
   have hds:=zcn s.data.toList i hil
   have HDS:=Lib.hid hds
   clear hds
   generalize dval (s.data.toList.take i)=A at *
   generalize hcc:s.data.toList[i].toNat=c at *
   obtain ⟨d,rfl⟩:∃ d,c=d+48:=⟨c-48,by omega⟩
   have hd9:d≤9:=by omega
   clear hcc
   have e1:((d+48:Nat):Int)=(d:Int)+48:=by omega
   rw [e1] at hc
   clear e1
   have HX:=Lib.hid (show dval (s.data.toList.take (i+1))=A*10+d by rw [HDS.out]; omega)
   by_cases hov:(18446744073709551615-(d:Int))/10<(A:Int)
   ·have HF:=Lib.hid (show natI n=(0,7) by
     have h1:=dval_take_le s.data.toList (i+1)
     rw [HX.out,HN.out] at h1
     unfold natI
     rw [if_neg (by omega)])
    go_wp2
    go_ret2
    exact ⟨by rw [HF.out]; rfl,hb2⟩
   ·have hA2:A*10+d<18446744073709551616:=by omega
    go_wp2
    go_round
    case rel=>exact ⟨i+1,by omega,by go_num,by rw [HX.out]; go_num,by rw [HX.out]; exact hA2⟩
    case measure=>simp [intOf]; omega
  ·obtain rfl:i=s.size:=by omega
   have hall:s.data.toList.take s.size=s.data.toList:=by rw [←zar,List.take_length]
   have HF:=Lib.hid (show natI n=(((dval (s.data.toList.take s.size):Nat):Int),0) by
    rw [hall,HN.out]
    rw [hall,HN.out] at hacc
    unfold natI
    rw [if_pos hacc])
   clear hall
   generalize dval (s.data.toList.take s.size)=A at *
   go_wp2
   go_ret2
   exact ⟨by rw [HF.out]; rfl,hb2⟩
theorem natInt_no (s:ByteArray) (w:World) (h:rightB s=false) :
  Calls Tryz.prog 214 #[.string s] w fun e w'=>e = .returned (.tuple #[.int .u64 0,.int .i64 3])∧Below w.heap.size w w':=by
 have HR:=fun W=>zbJ s W
 rw [h] at HR
 clear h
 go_enter Tryz.func214,Tryz.ntmps214
 go_wp2_with fail
 refine (HR _).mono ?_
 rintro e w1 ⟨rfl,hd⟩
 have hb1:=zcg hd
 clear hd
 go_wp2
 go_ret2
 exact ⟨rfl,hb1⟩
end Go.Proofs.P9
end
