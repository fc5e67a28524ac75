/- Texts under the proof, joined by a program (prune.py): P104, HForm, QRatA, QRatNew, P87. -/
import Derived.Test.YtocfocjfdpegmaaGreatDoorCRatParses02
import Derived.Test.YtocfocjfdpegmaaGreatDoorCRatParses08
import Derived.BigQuiet
import Derived.Deep.QuietTactic
set_option linter.unusedVariables false
set_option linter.unusedSimpArgs false
set_option exponentiation.threshold 20001
set_option maxHeartbeats 8000000
set_option maxRecDepth 100000
section
namespace Go.Proofs.ZP
open Go.RowKit Go.Proofs.ZW.Wa Go.Proofs.ZW.Wb Go.Proofs.ZW.Wc
attribute [local go_sem] zaH zaF zaW zaV zaA zaz zaG zaE
def IsS115 (w0 W:World) (g:Nat) (f0:ByteArray) (f1:Int) (f2:Bool) (f3:Bool) (f4:ByteArray) (f5:Int) (f6:ByteArray) (f7:Bool) (f8:ByteArray) (f9:Bool) (f10:Int):Prop:=W.heap[g]? = some (.cells #[.string f0,.int .i64 f1,.bool f2,.bool f3,.string f4,.int .i64 f5,.string f6,.bool f7,.string f8,.bool f9,.int .i64 f10] 115 (0,0))∧w0.heap.size≤g
theorem IsS115.grown {w0 W:World} {g:Nat} {f0:ByteArray} {f1:Int} {f2:Bool} {f3:Bool} {f4:ByteArray} {f5:Int} {f6:ByteArray} {f7:Bool} {f8:ByteArray} {f9:Bool} {f10:Int} {W1:World} {row:Option Nat} (h:IsS115 w0 W g f0 f1 f2 f3 f4 f5 f6 f7 f8 f9 f10) (hw:W.grownBy W1 row) (hne:some g≠row):IsS115 w0 W1 g f0 f1 f2 f3 f4 f5 f6 f7 f8 f9 f10:=by
 obtain ⟨hb,hg⟩:=h
 exact ⟨blk_grown hb hw hne,hg⟩
theorem IsS115.kept {w0 W:World} {g:Nat} {f0:ByteArray} {f1:Int} {f2:Bool} {f3:Bool} {f4:ByteArray} {f5:Int} {f6:ByteArray} {f7:Bool} {f8:ByteArray} {f9:Bool} {f10:Int} {W1:World} {S:Nat→Prop} (h:IsS115 w0 W g f0 f1 f2 f3 f4 f5 f6 f7 f8 f9 f10) (hk:Kept W W1 S) (hne:¬ S g):IsS115 w0 W1 g f0 f1 f2 f3 f4 f5 f6 f7 f8 f9 f10:=by
 obtain ⟨hb,hg⟩:=h
 exact ⟨blk_kept hb hk hne,hg⟩
theorem IsS115.below {w0 W:World} {g:Nat} {f0:ByteArray} {f1:Int} {f2:Bool} {f3:Bool} {f4:ByteArray} {f5:Int} {f6:ByteArray} {f7:Bool} {f8:ByteArray} {f9:Bool} {f10:Int} {W1:World} (h:IsS115 w0 W g f0 f1 f2 f3 f4 f5 f6 f7 f8 f9 f10) (hw:Below W.heap.size W W1):IsS115 w0 W1 g f0 f1 f2 f3 f4 f5 f6 f7 f8 f9 f10:=h.grown (zcy hw none) (by simp)
theorem IsS115.alloc {w0 W:World} {g:Nat} {f0:ByteArray} {f1:Int} {f2:Bool} {f3:Bool} {f4:ByteArray} {f5:Int} {f6:ByteArray} {f7:Bool} {f8:ByteArray} {f9:Bool} {f10:Int} (h:IsS115 w0 W g f0 f1 f2 f3 f4 f5 f6 f7 f8 f9 f10) (o:Obj):IsS115 w0 (W.alloc o) g f0 f1 f2 f3 f4 f5 f6 f7 f8 f9 f10:=h.below (zaa (Below.refl _ _) o)
theorem IsS115.drewN {w0 W:World} {g:Nat} {f0:ByteArray} {f1:Int} {f2:Bool} {f3:Bool} {f4:ByteArray} {f5:Int} {f6:ByteArray} {f7:Bool} {f8:ByteArray} {f9:Bool} {f10:Int} (h:IsS115 w0 W g f0 f1 f2 f3 f4 f5 f6 f7 f8 f9 f10) (m:Nat):IsS115 w0 (W.drewN m) g f0 f1 f2 f3 f4 f5 f6 f7 f8 f9 f10:=h
theorem IsS115.drew {w0 W:World} {g:Nat} {f0:ByteArray} {f1:Int} {f2:Bool} {f3:Bool} {f4:ByteArray} {f5:Int} {f6:ByteArray} {f7:Bool} {f8:ByteArray} {f9:Bool} {f10:Int} (h:IsS115 w0 W g f0 f1 f2 f3 f4 f5 f6 f7 f8 f9 f10):IsS115 w0 W.drew g f0 f1 f2 f3 f4 f5 f6 f7 f8 f9 f10:=h
theorem IsS115.at_ {w0 W:World} {g:Nat} {f0:ByteArray} {f1:Int} {f2:Bool} {f3:Bool} {f4:ByteArray} {f5:Int} {f6:ByteArray} {f7:Bool} {f8:ByteArray} {f9:Bool} {f10:Int} {w':World} {m:Nat} (hq:W.drewN m=w') (h:IsS115 w0 W g f0 f1 f2 f3 f4 f5 f6 f7 f8 f9 f10):IsS115 w0 w' g f0 f1 f2 f3 f4 f5 f6 f7 f8 f9 f10:=by subst hq; exact IsS115.drewN h m
theorem IsS115.apart {w0 W:World} {g:Nat} {f0:ByteArray} {f1:Int} {f2:Bool} {f3:Bool} {f4:ByteArray} {f5:Int} {f6:ByteArray} {f7:Bool} {f8:ByteArray} {f9:Bool} {f10:Int} {α:Type} {d:Kd α} {e:Nat} {base:Nat} {ok:Nat→Prop} {v:Value} {xs:List α} (h:IsS115 w0 W g f0 f1 f2 f3 f4 f5 f6 f7 f8 f9 f10) (ho:d.R e W base ok v xs) (ht:∀ q,q∈e :: d.E→q≠115):d.R e W base (fun k=>ok k∧k≠g) v xs:=by
 obtain ⟨hb,hg⟩:=h
 exact Kd.R_types ho hb ht
theorem IsS115.own_ne {w0 W:World} {g:Nat} {f0:ByteArray} {f1:Int} {f2:Bool} {f3:Bool} {f4:ByteArray} {f5:Int} {f6:ByteArray} {f7:Bool} {f8:ByteArray} {f9:Bool} {f10:Int} {α:Type} {d:Kd α} {e:Nat} {base:Nat} {ok:Nat→Prop} {v:Value} {xs:List α} (h:IsS115 w0 W g f0 f1 f2 f3 f4 f5 f6 f7 f8 f9 f10) (ho:d.R e W base ok v xs) (ht:e≠115):some g≠v.ownBlock:=by
 obtain ⟨hb,hg⟩:=h
 exact Kd.R_ne ho hb ht
theorem IsS115.lt {w0 W:World} {g:Nat} {f0:ByteArray} {f1:Int} {f2:Bool} {f3:Bool} {f4:ByteArray} {f5:Int} {f6:ByteArray} {f7:Bool} {f8:ByteArray} {f9:Bool} {f10:Int} (h:IsS115 w0 W g f0 f1 f2 f3 f4 f5 f6 f7 f8 f9 f10):g<W.heap.size:=by
 obtain ⟨hb,hg⟩:=h
 exact zas hb
theorem IsS115.ge {w0 W:World} {g:Nat} {f0:ByteArray} {f1:Int} {f2:Bool} {f3:Bool} {f4:ByteArray} {f5:Int} {f6:ByteArray} {f7:Bool} {f8:ByteArray} {f9:Bool} {f10:Int} (h:IsS115 w0 W g f0 f1 f2 f3 f4 f5 f6 f7 f8 f9 f10):w0.heap.size≤g:=by
 obtain ⟨hb,hg⟩:=h
 exact hg
theorem zbq {W:World} {g:Nat} {f0:ByteArray} {f1:Int} {f2:Bool} {f3:Bool} {f4:ByteArray} {f5:Int} {f6:ByteArray} {f7:Bool} {f8:ByteArray} {f9:Bool} {f10:Int} (h:W.heap[g]? = some (.cells #[.string f0,.int .i64 f1,.bool f2,.bool f3,.string f4,.int .i64 f5,.string f6,.bool f7,.string f8,.bool f9,.int .i64 f10] 115 (0,0))):W.cell? ⟨g,0,none⟩=some (.string f0):=(zaf h 0).trans rfl
theorem IsS115.set_0 {w0 W:World} {g:Nat} {f0:ByteArray} {f1:Int} {f2:Bool} {f3:Bool} {f4:ByteArray} {f5:Int} {f6:ByteArray} {f7:Bool} {f8:ByteArray} {f9:Bool} {f10:Int} (h:IsS115 w0 W g f0 f1 f2 f3 f4 f5 f6 f7 f8 f9 f10) (x:ByteArray):IsS115 w0 (W.setCell ⟨g,0,none⟩ (.string x)) g x f1 f2 f3 f4 f5 f6 f7 f8 f9 f10:=by
 obtain ⟨hb,hg⟩:=h
 exact ⟨by simpa using zav hb 0 (.string x),hg⟩
theorem zbp {W:World} {g:Nat} {f0:ByteArray} {f1:Int} {f2:Bool} {f3:Bool} {f4:ByteArray} {f5:Int} {f6:ByteArray} {f7:Bool} {f8:ByteArray} {f9:Bool} {f10:Int} (h:W.heap[g]? = some (.cells #[.string f0,.int .i64 f1,.bool f2,.bool f3,.string f4,.int .i64 f5,.string f6,.bool f7,.string f8,.bool f9,.int .i64 f10] 115 (0,0))):W.cell? ⟨g,1,none⟩=some (.int .i64 f1):=(zaf h 1).trans rfl
theorem IsS115.set_1 {w0 W:World} {g:Nat} {f0:ByteArray} {f1:Int} {f2:Bool} {f3:Bool} {f4:ByteArray} {f5:Int} {f6:ByteArray} {f7:Bool} {f8:ByteArray} {f9:Bool} {f10:Int} (h:IsS115 w0 W g f0 f1 f2 f3 f4 f5 f6 f7 f8 f9 f10) (x:Int):IsS115 w0 (W.setCell ⟨g,1,none⟩ (.int .i64 x)) g f0 x f2 f3 f4 f5 f6 f7 f8 f9 f10:=by
 obtain ⟨hb,hg⟩:=h
 exact ⟨by simpa using zav hb 1 (.int .i64 x),hg⟩
theorem zbo {W:World} {g:Nat} {f0:ByteArray} {f1:Int} {f2:Bool} {f3:Bool} {f4:ByteArray} {f5:Int} {f6:ByteArray} {f7:Bool} {f8:ByteArray} {f9:Bool} {f10:Int} (h:W.heap[g]? = some (.cells #[.string f0,.int .i64 f1,.bool f2,.bool f3,.string f4,.int .i64 f5,.string f6,.bool f7,.string f8,.bool f9,.int .i64 f10] 115 (0,0))):W.cell? ⟨g,2,none⟩=some (.bool f2):=(zaf h 2).trans rfl
theorem IsS115.set_2 {w0 W:World} {g:Nat} {f0:ByteArray} {f1:Int} {f2:Bool} {f3:Bool} {f4:ByteArray} {f5:Int} {f6:ByteArray} {f7:Bool} {f8:ByteArray} {f9:Bool} {f10:Int} (h:IsS115 w0 W g f0 f1 f2 f3 f4 f5 f6 f7 f8 f9 f10) (x:Bool):IsS115 w0 (W.setCell ⟨g,2,none⟩ (.bool x)) g f0 f1 x f3 f4 f5 f6 f7 f8 f9 f10:=by
 obtain ⟨hb,hg⟩:=h
 exact ⟨by simpa using zav hb 2 (.bool x),hg⟩
theorem zbn {W:World} {g:Nat} {f0:ByteArray} {f1:Int} {f2:Bool} {f3:Bool} {f4:ByteArray} {f5:Int} {f6:ByteArray} {f7:Bool} {f8:ByteArray} {f9:Bool} {f10:Int} (h:W.heap[g]? = some (.cells #[.string f0,.int .i64 f1,.bool f2,.bool f3,.string f4,.int .i64 f5,.string f6,.bool f7,.string f8,.bool f9,.int .i64 f10] 115 (0,0))):W.cell? ⟨g,3,none⟩=some (.bool f3):=(zaf h 3).trans rfl
theorem IsS115.set_3 {w0 W:World} {g:Nat} {f0:ByteArray} {f1:Int} {f2:Bool} {f3:Bool} {f4:ByteArray} {f5:Int} {f6:ByteArray} {f7:Bool} {f8:ByteArray} {f9:Bool} {f10:Int} (h:IsS115 w0 W g f0 f1 f2 f3 f4 f5 f6 f7 f8 f9 f10) (x:Bool):IsS115 w0 (W.setCell ⟨g,3,none⟩ (.bool x)) g f0 f1 f2 x f4 f5 f6 f7 f8 f9 f10:=by
 obtain ⟨hb,hg⟩:=h
 exact ⟨by simpa using zav hb 3 (.bool x),hg⟩
theorem zbm {W:World} {g:Nat} {f0:ByteArray} {f1:Int} {f2:Bool} {f3:Bool} {f4:ByteArray} {f5:Int} {f6:ByteArray} {f7:Bool} {f8:ByteArray} {f9:Bool} {f10:Int} (h:W.heap[g]? = some (.cells #[.string f0,.int .i64 f1,.bool f2,.bool f3,.string f4,.int .i64 f5,.string f6,.bool f7,.string f8,.bool f9,.int .i64 f10] 115 (0,0))):W.cell? ⟨g,4,none⟩=some (.string f4):=(zaf h 4).trans rfl
theorem IsS115.set_4 {w0 W:World} {g:Nat} {f0:ByteArray} {f1:Int} {f2:Bool} {f3:Bool} {f4:ByteArray} {f5:Int} {f6:ByteArray} {f7:Bool} {f8:ByteArray} {f9:Bool} {f10:Int} (h:IsS115 w0 W g f0 f1 f2 f3 f4 f5 f6 f7 f8 f9 f10) (x:ByteArray):IsS115 w0 (W.setCell ⟨g,4,none⟩ (.string x)) g f0 f1 f2 f3 x f5 f6 f7 f8 f9 f10:=by
 obtain ⟨hb,hg⟩:=h
 exact ⟨by simpa using zav hb 4 (.string x),hg⟩
theorem zbl {W:World} {g:Nat} {f0:ByteArray} {f1:Int} {f2:Bool} {f3:Bool} {f4:ByteArray} {f5:Int} {f6:ByteArray} {f7:Bool} {f8:ByteArray} {f9:Bool} {f10:Int} (h:W.heap[g]? = some (.cells #[.string f0,.int .i64 f1,.bool f2,.bool f3,.string f4,.int .i64 f5,.string f6,.bool f7,.string f8,.bool f9,.int .i64 f10] 115 (0,0))):W.cell? ⟨g,5,none⟩=some (.int .i64 f5):=(zaf h 5).trans rfl
theorem IsS115.set_5 {w0 W:World} {g:Nat} {f0:ByteArray} {f1:Int} {f2:Bool} {f3:Bool} {f4:ByteArray} {f5:Int} {f6:ByteArray} {f7:Bool} {f8:ByteArray} {f9:Bool} {f10:Int} (h:IsS115 w0 W g f0 f1 f2 f3 f4 f5 f6 f7 f8 f9 f10) (x:Int):IsS115 w0 (W.setCell ⟨g,5,none⟩ (.int .i64 x)) g f0 f1 f2 f3 f4 x f6 f7 f8 f9 f10:=by
 obtain ⟨hb,hg⟩:=h
 exact ⟨by simpa using zav hb 5 (.int .i64 x),hg⟩
theorem zbk {W:World} {g:Nat} {f0:ByteArray} {f1:Int} {f2:Bool} {f3:Bool} {f4:ByteArray} {f5:Int} {f6:ByteArray} {f7:Bool} {f8:ByteArray} {f9:Bool} {f10:Int} (h:W.heap[g]? = some (.cells #[.string f0,.int .i64 f1,.bool f2,.bool f3,.string f4,.int .i64 f5,.string f6,.bool f7,.string f8,.bool f9,.int .i64 f10] 115 (0,0))):W.cell? ⟨g,6,none⟩=some (.string f6):=(zaf h 6).trans rfl
theorem IsS115.set_6 {w0 W:World} {g:Nat} {f0:ByteArray} {f1:Int} {f2:Bool} {f3:Bool} {f4:ByteArray} {f5:Int} {f6:ByteArray} {f7:Bool} {f8:ByteArray} {f9:Bool} {f10:Int} (h:IsS115 w0 W g f0 f1 f2 f3 f4 f5 f6 f7 f8 f9 f10) (x:ByteArray):IsS115 w0 (W.setCell ⟨g,6,none⟩ (.string x)) g f0 f1 f2 f3 f4 f5 x f7 f8 f9 f10:=by
 obtain ⟨hb,hg⟩:=h
 exact ⟨by simpa using zav hb 6 (.string x),hg⟩
theorem zbj {W:World} {g:Nat} {f0:ByteArray} {f1:Int} {f2:Bool} {f3:Bool} {f4:ByteArray} {f5:Int} {f6:ByteArray} {f7:Bool} {f8:ByteArray} {f9:Bool} {f10:Int} (h:W.heap[g]? = some (.cells #[.string f0,.int .i64 f1,.bool f2,.bool f3,.string f4,.int .i64 f5,.string f6,.bool f7,.string f8,.bool f9,.int .i64 f10] 115 (0,0))):W.cell? ⟨g,7,none⟩=some (.bool f7):=(zaf h 7).trans rfl
theorem IsS115.set_7 {w0 W:World} {g:Nat} {f0:ByteArray} {f1:Int} {f2:Bool} {f3:Bool} {f4:ByteArray} {f5:Int} {f6:ByteArray} {f7:Bool} {f8:ByteArray} {f9:Bool} {f10:Int} (h:IsS115 w0 W g f0 f1 f2 f3 f4 f5 f6 f7 f8 f9 f10) (x:Bool):IsS115 w0 (W.setCell ⟨g,7,none⟩ (.bool x)) g f0 f1 f2 f3 f4 f5 f6 x f8 f9 f10:=by
 obtain ⟨hb,hg⟩:=h
 exact ⟨by simpa using zav hb 7 (.bool x),hg⟩
theorem zbi {W:World} {g:Nat} {f0:ByteArray} {f1:Int} {f2:Bool} {f3:Bool} {f4:ByteArray} {f5:Int} {f6:ByteArray} {f7:Bool} {f8:ByteArray} {f9:Bool} {f10:Int} (h:W.heap[g]? = some (.cells #[.string f0,.int .i64 f1,.bool f2,.bool f3,.string f4,.int .i64 f5,.string f6,.bool f7,.string f8,.bool f9,.int .i64 f10] 115 (0,0))):W.cell? ⟨g,8,none⟩=some (.string f8):=(zaf h 8).trans rfl
theorem IsS115.set_8 {w0 W:World} {g:Nat} {f0:ByteArray} {f1:Int} {f2:Bool} {f3:Bool} {f4:ByteArray} {f5:Int} {f6:ByteArray} {f7:Bool} {f8:ByteArray} {f9:Bool} {f10:Int} (h:IsS115 w0 W g f0 f1 f2 f3 f4 f5 f6 f7 f8 f9 f10) (x:ByteArray):IsS115 w0 (W.setCell ⟨g,8,none⟩ (.string x)) g f0 f1 f2 f3 f4 f5 f6 f7 x f9 f10:=by
 obtain ⟨hb,hg⟩:=h
 exact ⟨by simpa using zav hb 8 (.string x),hg⟩
theorem zbh {W:World} {g:Nat} {f0:ByteArray} {f1:Int} {f2:Bool} {f3:Bool} {f4:ByteArray} {f5:Int} {f6:ByteArray} {f7:Bool} {f8:ByteArray} {f9:Bool} {f10:Int} (h:W.heap[g]? = some (.cells #[.string f0,.int .i64 f1,.bool f2,.bool f3,.string f4,.int .i64 f5,.string f6,.bool f7,.string f8,.bool f9,.int .i64 f10] 115 (0,0))):W.cell? ⟨g,9,none⟩=some (.bool f9):=(zaf h 9).trans rfl
theorem IsS115.set_9 {w0 W:World} {g:Nat} {f0:ByteArray} {f1:Int} {f2:Bool} {f3:Bool} {f4:ByteArray} {f5:Int} {f6:ByteArray} {f7:Bool} {f8:ByteArray} {f9:Bool} {f10:Int} (h:IsS115 w0 W g f0 f1 f2 f3 f4 f5 f6 f7 f8 f9 f10) (x:Bool):IsS115 w0 (W.setCell ⟨g,9,none⟩ (.bool x)) g f0 f1 f2 f3 f4 f5 f6 f7 f8 x f10:=by
 obtain ⟨hb,hg⟩:=h
 exact ⟨by simpa using zav hb 9 (.bool x),hg⟩
theorem zba {W:World} {g:Nat} {f0:ByteArray} {f1:Int} {f2:Bool} {f3:Bool} {f4:ByteArray} {f5:Int} {f6:ByteArray} {f7:Bool} {f8:ByteArray} {f9:Bool} {f10:Int} (h:W.heap[g]? = some (.cells #[.string f0,.int .i64 f1,.bool f2,.bool f3,.string f4,.int .i64 f5,.string f6,.bool f7,.string f8,.bool f9,.int .i64 f10] 115 (0,0))):W.cell? ⟨g,10,none⟩=some (.int .i64 f10):=(zaf h 10).trans rfl
theorem IsS115.set_10 {w0 W:World} {g:Nat} {f0:ByteArray} {f1:Int} {f2:Bool} {f3:Bool} {f4:ByteArray} {f5:Int} {f6:ByteArray} {f7:Bool} {f8:ByteArray} {f9:Bool} {f10:Int} (h:IsS115 w0 W g f0 f1 f2 f3 f4 f5 f6 f7 f8 f9 f10) (x:Int):IsS115 w0 (W.setCell ⟨g,10,none⟩ (.int .i64 x)) g f0 f1 f2 f3 f4 f5 f6 f7 f8 f9 x:=by
 obtain ⟨hb,hg⟩:=h
 exact ⟨by simpa using zav hb 10 (.int .i64 x),hg⟩
theorem IsS115.new (w0 W:World) (f0:ByteArray) (f1:Int) (f2:Bool) (f3:Bool) (f4:ByteArray) (f5:Int) (f6:ByteArray) (f7:Bool) (f8:ByteArray) (f9:Bool) (f10:Int) (hB:Below w0.heap.size w0 W):IsS115 w0 (W.alloc (.cells #[.string f0,.int .i64 f1,.bool f2,.bool f3,.string f4,.int .i64 f5,.string f6,.bool f7,.string f8,.bool f9,.int .i64 f10] 115)) W.heap.size f0 f1 f2 f3 f4 f5 f6 f7 f8 f9 f10:=⟨by simpa using heap_alloc_new W _,hB.size⟩
def rat_form_digits.l0:Nat→Int→ByteArray→Int→Bool→Bool→ByteArray→Int→ByteArray→Bool→ByteArray→Bool→Int→Option (ByteArray×ByteArray×Int×Bool×Bool×ByteArray×Int×ByteArray×Bool×ByteArray×Bool×Int)
 | 0,_,_,_,_,_,_,_,_,_,_,_,_=>none
 | k+1,x3,x1000,x1001,x1002,x1003,x1004,x1005,x1006,x1007,x1008,x1009,x1010=>if x1001<(x1000.size:Int) then (if 0≤x1001 then (if (bt x1000 x1001)≥48 then (if (bt x1000 x1001)≤57 then (rat_form_digits.l0 k x3 x1000 (wrap64 (x1001+1)) x1002 x1003 x1004 x1005 x1006 x1007 x1008 x1009 x1010) else (if x1002=true then (if 0≤x3 then (if x3≤x1001 then (if x1001≤(x1000.size:Int) then (some (x1000.extract (x3:Int).toNat (x1001:Int).toNat,x1000,x1001,true,x1003,x1004,x1005,x1006,x1007,x1008,x1009,x1010)) else (none)) else (none)) else (none)) else (if 0≤x3 then (if x3≤x1001 then (if x1001≤(x1000.size:Int) then (some (x1000.extract (x3:Int).toNat (x1001:Int).toNat,x1000,x1001,(x1001 == x3),x1003,x1004,x1005,x1006,x1007,x1008,x1009,x1010)) else (none)) else (none)) else (none)))) else (if x1002=true then (if 0≤x3 then (if x3≤x1001 then (if x1001≤(x1000.size:Int) then (some (x1000.extract (x3:Int).toNat (x1001:Int).toNat,x1000,x1001,true,x1003,x1004,x1005,x1006,x1007,x1008,x1009,x1010)) else (none)) else (none)) else (none)) else (if 0≤x3 then (if x3≤x1001 then (if x1001≤(x1000.size:Int) then (some (x1000.extract (x3:Int).toNat (x1001:Int).toNat,x1000,x1001,(x1001 == x3),x1003,x1004,x1005,x1006,x1007,x1008,x1009,x1010)) else (none)) else (none)) else (none)))) else (none)) else (if x1002=true then (if 0≤x3 then (if x3≤x1001 then (if x1001≤(x1000.size:Int) then (some (x1000.extract (x3:Int).toNat (x1001:Int).toNat,x1000,x1001,true,x1003,x1004,x1005,x1006,x1007,x1008,x1009,x1010)) else (none)) else (none)) else (none)) else (if 0≤x3 then (if x3≤x1001 then (if x1001≤(x1000.size:Int) then (some (x1000.extract (x3:Int).toNat (x1001:Int).toNat,x1000,x1001,(x1001 == x3),x1003,x1004,x1005,x1006,x1007,x1008,x1009,x1010)) else (none)) else (none)) else (none)))
def rat_form_digits.f (k:Nat) (s0_0:ByteArray) (s0_1:Int) (s0_2:Bool) (s0_3:Bool) (s0_4:ByteArray) (s0_5:Int) (s0_6:ByteArray) (s0_7:Bool) (s0_8:ByteArray) (s0_9:Bool) (s0_10:Int):Option (ByteArray×ByteArray×Int×Bool×Bool×ByteArray×Int×ByteArray×Bool×ByteArray×Bool×Int):=rat_form_digits.l0 k s0_1 s0_0 s0_1 s0_2 s0_3 s0_4 s0_5 s0_6 s0_7 s0_8 s0_9 s0_10
theorem rat_form_digits.calls (k:Nat) (g:Nat) (s0_0:ByteArray) (s0_1:Int) (s0_2:Bool) (s0_3:Bool) (s0_4:ByteArray) (s0_5:Int) (s0_6:ByteArray) (s0_7:Bool) (s0_8:ByteArray) (s0_9:Bool) (s0_10:Int) (r1:ByteArray) (r2:ByteArray) (r3:Int) (r4:Bool) (r5:Bool) (r6:ByteArray) (r7:Int) (r8:ByteArray) (r9:Bool) (r10:ByteArray) (r11:Bool) (r12:Int) (w0 w:World) (hI:IsS115 w0 w g s0_0 s0_1 s0_2 s0_3 s0_4 s0_5 s0_6 s0_7 s0_8 s0_9 s0_10) (hB:Below w0.heap.size w0 w) (h:rat_form_digits.f k s0_0 s0_1 s0_2 s0_3 s0_4 s0_5 s0_6 s0_7 s0_8 s0_9 s0_10=some (r1,r2,r3,r4,r5,r6,r7,r8,r9,r10,r11,r12)) :
  Calls Tryz.prog 173 #[.pointer (some ⟨g,0,none⟩)] w fun e w'=>e = .returned (.string r1)∧IsS115 w0 w' g r2 r3 r4 r5 r6 r7 r8 r9 r10 r11 r12∧Below w0.heap.size w0 w'∧KeepBut w w' g none:=by
 have HI0:=Aside0.mk hI
 have HK:=Aside0.mk (KeepBut.refl w g none)
 have HL:=Aside0.mk hB.size
 clear hI
 have HW0:=Aside0.mk hB.size
 have HB:=Aside0.mk hB
 clear hB
 have H:(rat_form_digits.l0 k s0_1 s0_0 s0_1 s0_2 s0_3 s0_4 s0_5 s0_6 s0_7 s0_8 s0_9 s0_10)=some (r1,r2,r3,r4,r5,r6,r7,r8,r9,r10,r11,r12):=h
 clear h
 have H':=Aside0.mk H
 clear H
 obtain ⟨HGz2,hgz2⟩:=HI0.out
 have hcz2_0:=zbq HGz2
 have hcz2_1:=zbp HGz2
 have hcz2_2:=zbo HGz2
 have hcz2_3:=zbn HGz2
 have hcz2_4:=zbm HGz2
 have hcz2_5:=zbl HGz2
 have hcz2_6:=zbk HGz2
 have hcz2_7:=zbj HGz2
 have hcz2_8:=zbi HGz2
 have hcz2_9:=zbh HGz2
 have hcz2_10:=zba HGz2
 have hfz2_0:=zad HGz2 0
 have hfz2_1:=zad HGz2 1
 have hfz2_2:=zad HGz2 2
 have hfz2_3:=zad HGz2 3
 have hfz2_4:=zad HGz2 4
 have hfz2_5:=zad HGz2 5
 have hfz2_6:=zad HGz2 6
 have hfz2_7:=zad HGz2 7
 have hfz2_8:=zad HGz2 8
 have hfz2_9:=zad HGz2 9
 have hfz2_10:=zad HGz2 10
 clear HGz2 hgz2
 go_enter Tryz.func173,Tryz.ntmps173
 go_wp2
 repeat (go_quiet (fail); try go_wp2)
 go_loopg [] k (fun kq w'=>∃ (x1001_1:Int),Aside0 (rat_form_digits.l0 kq s0_1 s0_0 x1001_1 s0_2 s0_3 s0_4 s0_5 s0_6 s0_7 s0_8 s0_9 s0_10=some (r1,r2,r3,r4,r5,r6,r7,r8,r9,r10,r11,r12))∧Aside0 (kq≤k)∧Aside0 (IsS115 w0 w' g s0_0 x1001_1 s0_2 s0_3 s0_4 s0_5 s0_6 s0_7 s0_8 s0_9 s0_10)∧Aside0 (KeepBut w w' g none)∧Aside0 (Below w0.heap.size w0 w'))
 case atStart=>exact ⟨(s0_1),H',⟨Nat.le_refl _⟩,⟨by repeat (first|(with_reducible first|exact HI0.out|apply IsS115.alloc|apply IsS115.drewN|apply IsS115.drew|apply IsS115.set_0|apply IsS115.set_1|apply IsS115.set_2|apply IsS115.set_3|apply IsS115.set_4|apply IsS115.set_5|apply IsS115.set_6|apply IsS115.set_7|apply IsS115.set_8|apply IsS115.set_9|apply IsS115.set_10)|exact HI0.out)⟩,⟨by repeat (first|(with_reducible first|exact HK.out|apply KeepBut.set_|apply zbf|apply zbD|apply zbg)|exact HK.out)⟩,⟨by repeat (first|(with_reducible first|exact HB.out|apply zaa|apply zab|apply zae|refine zag ?_ (IsS115.ge HI0.out))|exact HB.out)⟩⟩
 case round =>
  clear H'
  try clear c1
  try clear p2
  try clear hcz2_0
  try clear hcz2_1
  try clear hcz2_10
  try clear hcz2_2
  try clear hcz2_3
  try clear hcz2_4
  try clear hcz2_5
  try clear hcz2_6
  try clear hcz2_7
  try clear hcz2_8
  try clear hcz2_9
  try clear hfz2_0
  try clear hfz2_1
  try clear hfz2_10
  try clear hfz2_2
  try clear hfz2_3
  try clear hfz2_4
  try clear hfz2_5
  try clear hfz2_6
  try clear hfz2_7
  try clear hfz2_8
  try clear hfz2_9
  obtain ⟨x1001_1,HA,HK1,HI0,HK,HB⟩:=hrel
  cases gk with
  | zero=>exact absurd HA.out (by simp [rat_form_digits.l0])
  | succ k1 =>
   have H:=HA.out
   clear HA
   simp only [rat_form_digits.l0] at H
   by_cases c3:x1001_1<(s0_0.size:Int)
   ·rw [if_pos c3] at H
    have c3b0:decide (x1001_1<(s0_0.size:Int))=true:=decide_eq_true c3
    clear c3
    by_cases c4:0≤x1001_1
    ·rw [if_pos c4] at H
     have c4b0:decide (0≤x1001_1)=true:=decide_eq_true c4
     clear c4
     by_cases c6:(bt s0_0 x1001_1)≥48
     ·rw [if_pos c6] at H
      have c6b0:decide (48≤(bt s0_0 x1001_1))=true:=decide_eq_true c6
      clear c6
      by_cases c8:(bt s0_0 x1001_1)≤57
      ·rw [if_pos c8] at H
       have c8b0:decide ((bt s0_0 x1001_1)≤57)=true:=decide_eq_true c8
       clear c8
       have H':=Aside0.mk H
       clear H
       obtain ⟨HGz9,hgz9⟩:=HI0.out
       have hcz9_0:=zbq HGz9
       have hcz9_1:=zbp HGz9
       have hcz9_2:=zbo HGz9
       have hcz9_3:=zbn HGz9
       have hcz9_4:=zbm HGz9
       have hcz9_5:=zbl HGz9
       have hcz9_6:=zbk HGz9
       have hcz9_7:=zbj HGz9
       have hcz9_8:=zbi HGz9
       have hcz9_9:=zbh HGz9
       have hcz9_10:=zba HGz9
       have hfz9_0:=zad HGz9 0
       have hfz9_1:=zad HGz9 1
       have hfz9_2:=zad HGz9 2
       have hfz9_3:=zad HGz9 3
       have hfz9_4:=zad HGz9 4
       have hfz9_5:=zad HGz9 5
       have hfz9_6:=zad HGz9 6
       have hfz9_7:=zad HGz9 7
       have hfz9_8:=zad HGz9 8
       have hfz9_9:=zad HGz9 9
       have hfz9_10:=zad HGz9 10
       clear HGz9 hgz9
       have p5:0≤(x1001_1:Int):=of_decide_eq_true (by first|(with_reducible assumption)|assumption)
       have q5:x1001_1<(s0_0.size:Int):=of_decide_eq_true (by first|(with_reducible assumption)|assumption)
       have hx5:=bt_at s0_0 x1001_1
       replace p5:=eq_true p5
       replace q5:=eq_true q5
       have p7:0≤(x1001_1:Int):=of_decide_eq_true (by first|(with_reducible assumption)|assumption)
       have q7:x1001_1<(s0_0.size:Int):=of_decide_eq_true (by first|(with_reducible assumption)|assumption)
       have hx7:=bt_at s0_0 x1001_1
       replace p7:=eq_true p7
       replace q7:=eq_true q7
       go_wp2
       repeat (go_quiet (fail); try go_wp2)
       go_roundg k1
       case measure=>have:=HK1.out; omega
       case rel=>exact ⟨(wrap64 (x1001_1+1)),H',⟨by have:=HK1.out; omega⟩,⟨by repeat (first|(with_reducible first|exact HI0.out|apply IsS115.alloc|apply IsS115.drewN|apply IsS115.drew|apply IsS115.set_0|apply IsS115.set_1|apply IsS115.set_2|apply IsS115.set_3|apply IsS115.set_4|apply IsS115.set_5|apply IsS115.set_6|apply IsS115.set_7|apply IsS115.set_8|apply IsS115.set_9|apply IsS115.set_10)|exact HI0.out)⟩,⟨by repeat (first|(with_reducible first|exact HK.out|apply KeepBut.set_|apply zbf|apply zbD|apply zbg)|exact HK.out)⟩,⟨by repeat (first|(with_reducible first|exact HB.out|apply zaa|apply zab|apply zae|refine zag ?_ (IsS115.ge HI0.out))|exact HB.out)⟩⟩
      ·rw [if_neg c8] at H
       have c8b0:decide ((bt s0_0 x1001_1)≤57)=false:=decide_eq_false c8
       clear c8
       by_cases c10:s0_2=true
       ·subst c10
        have H1:(if 0≤s0_1 then (if s0_1≤x1001_1 then (if x1001_1≤(s0_0.size:Int) then (some (s0_0.extract (s0_1:Int).toNat (x1001_1:Int).toNat,s0_0,x1001_1,true,s0_3,s0_4,s0_5,s0_6,s0_7,s0_8,s0_9,s0_10)) else (none)) else (none)) else (none))=some (r1,r2,r3,r4,r5,r6,r7,r8,r9,r10,r11,r12):=by rw [if_pos rfl] at H; exact H
        clear H
        have H:=H1
        clear H1
        by_cases c11:0≤s0_1
        ·rw [if_pos c11] at H
         have c11b0:=eq_true c11
         have c11b1:decide (0≤s0_1)=true:=decide_eq_true c11
         clear c11
         by_cases c12:s0_1≤x1001_1
         ·rw [if_pos c12] at H
          have c12b0:=eq_true c12
          have c12b1:decide (s0_1≤x1001_1)=true:=decide_eq_true c12
          clear c12
          by_cases c13:x1001_1≤(s0_0.size:Int)
          ·rw [if_pos c13] at H
           have c13b0:=eq_true c13
           have c13b1:decide (x1001_1≤(s0_0.size:Int))=true:=decide_eq_true c13
           clear c13
           simp only [Option.some.injEq,Prod.mk.injEq] at H
           obtain ⟨rfl,rfl,rfl,rfl,rfl,rfl,rfl,rfl,rfl,rfl,rfl,rfl⟩:=H
           obtain ⟨HGz14,hgz14⟩:=HI0.out
           have hcz14_0:=zbq HGz14
           have hcz14_1:=zbp HGz14
           have hcz14_2:=zbo HGz14
           have hcz14_3:=zbn HGz14
           have hcz14_4:=zbm HGz14
           have hcz14_5:=zbl HGz14
           have hcz14_6:=zbk HGz14
           have hcz14_7:=zbj HGz14
           have hcz14_8:=zbi HGz14
           have hcz14_9:=zbh HGz14
           have hcz14_10:=zba HGz14
           have hfz14_0:=zad HGz14 0
           have hfz14_1:=zad HGz14 1
           have hfz14_2:=zad HGz14 2
           have hfz14_3:=zad HGz14 3
           have hfz14_4:=zad HGz14 4
           have hfz14_5:=zad HGz14 5
           have hfz14_6:=zad HGz14 6
           have hfz14_7:=zad HGz14 7
           have hfz14_8:=zad HGz14 8
           have hfz14_9:=zad HGz14 9
           have hfz14_10:=zad HGz14 10
           clear HGz14 hgz14
           have p5:0≤(x1001_1:Int):=of_decide_eq_true (by first|(with_reducible assumption)|assumption)
           have q5:x1001_1<(s0_0.size:Int):=of_decide_eq_true (by first|(with_reducible assumption)|assumption)
           have hx5:=bt_at s0_0 x1001_1
           replace p5:=eq_true p5
           replace q5:=eq_true q5
           have p7:0≤(x1001_1:Int):=of_decide_eq_true (by first|(with_reducible assumption)|assumption)
           have q7:x1001_1<(s0_0.size:Int):=of_decide_eq_true (by first|(with_reducible assumption)|assumption)
           have hx7:=bt_at s0_0 x1001_1
           replace p7:=eq_true p7
           replace q7:=eq_true q7
           go_wp2
           repeat (go_quiet (fail); try go_wp2)
           go_ret
           exact ⟨by first|rfl|(simp [zak,zaj]<;>rfl)|(simp [*,zak,zaj]<;>rfl),by repeat (first|(with_reducible first|exact HI0.out|apply IsS115.alloc|apply IsS115.drewN|apply IsS115.drew|apply IsS115.set_0|apply IsS115.set_1|apply IsS115.set_2|apply IsS115.set_3|apply IsS115.set_4|apply IsS115.set_5|apply IsS115.set_6|apply IsS115.set_7|apply IsS115.set_8|apply IsS115.set_9|apply IsS115.set_10)|exact HI0.out),by repeat (first|(with_reducible first|exact HB.out|apply zaa|apply zab|apply zae|refine zag ?_ (IsS115.ge HI0.out))|exact HB.out),by repeat (first|(with_reducible first|exact HK.out|apply KeepBut.set_|apply zbf|apply zbD|apply zbg)|exact HK.out)⟩
          ·rw [if_neg c13] at H
           exact absurd H (by simp)
         ·rw [if_neg c12] at H
          exact absurd H (by simp)
        ·rw [if_neg c11] at H
         exact absurd H (by simp)
       ·replace c10:=Bool.eq_false_iff.mpr c10
        subst c10
        have H1:(if 0≤s0_1 then (if s0_1≤x1001_1 then (if x1001_1≤(s0_0.size:Int) then (some (s0_0.extract (s0_1:Int).toNat (x1001_1:Int).toNat,s0_0,x1001_1,(x1001_1 == s0_1),s0_3,s0_4,s0_5,s0_6,s0_7,s0_8,s0_9,s0_10)) else (none)) else (none)) else (none))=some (r1,r2,r3,r4,r5,r6,r7,r8,r9,r10,r11,r12):=by rw [if_neg (show ¬ (false=true) by decide)] at H; exact H
        clear H
        have H:=H1
        clear H1
        by_cases c15:0≤s0_1
        ·rw [if_pos c15] at H
         have c15b0:=eq_true c15
         have c15b1:decide (0≤s0_1)=true:=decide_eq_true c15
         clear c15
         by_cases c16:s0_1≤x1001_1
         ·rw [if_pos c16] at H
          have c16b0:=eq_true c16
          have c16b1:decide (s0_1≤x1001_1)=true:=decide_eq_true c16
          clear c16
          by_cases c17:x1001_1≤(s0_0.size:Int)
          ·rw [if_pos c17] at H
           have c17b0:=eq_true c17
           have c17b1:decide (x1001_1≤(s0_0.size:Int))=true:=decide_eq_true c17
           clear c17
           simp only [Option.some.injEq,Prod.mk.injEq] at H
           obtain ⟨rfl,rfl,rfl,rfl,rfl,rfl,rfl,rfl,rfl,rfl,rfl,rfl⟩:=H
           obtain ⟨HGz18,hgz18⟩:=HI0.out
           have hcz18_0:=zbq HGz18
           have hcz18_1:=zbp HGz18
           have hcz18_2:=zbo HGz18
           have hcz18_3:=zbn HGz18
           have hcz18_4:=zbm HGz18
           have hcz18_5:=zbl HGz18
           have hcz18_6:=zbk HGz18
           have hcz18_7:=zbj HGz18
           have hcz18_8:=zbi HGz18
           have hcz18_9:=zbh HGz18
           have hcz18_10:=zba HGz18
           have hfz18_0:=zad HGz18 0
           have hfz18_1:=zad HGz18 1
           have hfz18_2:=zad HGz18 2
           have hfz18_3:=zad HGz18 3
           have hfz18_4:=zad HGz18 4
           have hfz18_5:=zad HGz18 5
           have hfz18_6:=zad HGz18 6
           have hfz18_7:=zad HGz18 7
           have hfz18_8:=zad HGz18 8
           have hfz18_9:=zad HGz18 9
           have hfz18_10:=zad HGz18 10
           clear HGz18 hgz18
           have p5:0≤(x1001_1:Int):=of_decide_eq_true (by first|(with_reducible assumption)|assumption)
           have q5:x1001_1<(s0_0.size:Int):=of_decide_eq_true (by first|(with_reducible assumption)|assumption)
           have hx5:=bt_at s0_0 x1001_1
           replace p5:=eq_true p5
           replace q5:=eq_true q5
           have p7:0≤(x1001_1:Int):=of_decide_eq_true (by first|(with_reducible assumption)|assumption)
           have q7:x1001_1<(s0_0.size:Int):=of_decide_eq_true (by first|(with_reducible assumption)|assumption)
           have hx7:=bt_at s0_0 x1001_1
           replace p7:=eq_true p7
           replace q7:=eq_true q7
           go_wp2
           repeat (go_quiet (fail); try go_wp2)
           go_ret
           exact ⟨by first|rfl|(simp [zak,zaj]<;>rfl)|(simp [*,zak,zaj]<;>rfl),by repeat (first|(with_reducible first|exact HI0.out|apply IsS115.alloc|apply IsS115.drewN|apply IsS115.drew|apply IsS115.set_0|apply IsS115.set_1|apply IsS115.set_2|apply IsS115.set_3|apply IsS115.set_4|apply IsS115.set_5|apply IsS115.set_6|apply IsS115.set_7|apply IsS115.set_8|apply IsS115.set_9|apply IsS115.set_10)|exact HI0.out),by repeat (first|(with_reducible first|exact HB.out|apply zaa|apply zab|apply zae|refine zag ?_ (IsS115.ge HI0.out))|exact HB.out),by repeat (first|(with_reducible first|exact HK.out|apply KeepBut.set_|apply zbf|apply zbD|apply zbg)|exact HK.out)⟩
          ·rw [if_neg c17] at H
           exact absurd H (by simp)
         ·rw [if_neg c16] at H
          exact absurd H (by simp)
        ·rw [if_neg c15] at H
         exact absurd H (by simp)
     ·rw [if_neg c6] at H
      have c6b0:decide (48≤(bt s0_0 x1001_1))=false:=decide_eq_false c6
      clear c6
      by_cases c19:s0_2=true
      ·subst c19
       have H1:(if 0≤s0_1 then (if s0_1≤x1001_1 then (if x1001_1≤(s0_0.size:Int) then (some (s0_0.extract (s0_1:Int).toNat (x1001_1:Int).toNat,s0_0,x1001_1,true,s0_3,s0_4,s0_5,s0_6,s0_7,s0_8,s0_9,s0_10)) else (none)) else (none)) else (none))=some (r1,r2,r3,r4,r5,r6,r7,r8,r9,r10,r11,r12):=by rw [if_pos rfl] at H; exact H
       clear H
       have H:=H1
       clear H1
       by_cases c20:0≤s0_1
       ·rw [if_pos c20] at H
        have c20b0:=eq_true c20
        have c20b1:decide (0≤s0_1)=true:=decide_eq_true c20
        clear c20
        by_cases c21:s0_1≤x1001_1
        ·rw [if_pos c21] at H
         have c21b0:=eq_true c21
         have c21b1:decide (s0_1≤x1001_1)=true:=decide_eq_true c21
         clear c21
         by_cases c22:x1001_1≤(s0_0.size:Int)
         ·rw [if_pos c22] at H
          have c22b0:=eq_true c22
          have c22b1:decide (x1001_1≤(s0_0.size:Int))=true:=decide_eq_true c22
          clear c22
          simp only [Option.some.injEq,Prod.mk.injEq] at H
          obtain ⟨rfl,rfl,rfl,rfl,rfl,rfl,rfl,rfl,rfl,rfl,rfl,rfl⟩:=H
          obtain ⟨HGz23,hgz23⟩:=HI0.out
          have hcz23_0:=zbq HGz23
          have hcz23_1:=zbp HGz23
          have hcz23_2:=zbo HGz23
          have hcz23_3:=zbn HGz23
          have hcz23_4:=zbm HGz23
          have hcz23_5:=zbl HGz23
          have hcz23_6:=zbk HGz23
          have hcz23_7:=zbj HGz23
          have hcz23_8:=zbi HGz23
          have hcz23_9:=zbh HGz23
          have hcz23_10:=zba HGz23
          have hfz23_0:=zad HGz23 0
          have hfz23_1:=zad HGz23 1
          have hfz23_2:=zad HGz23 2
          have hfz23_3:=zad HGz23 3
          have hfz23_4:=zad HGz23 4
          have hfz23_5:=zad HGz23 5
          have hfz23_6:=zad HGz23 6
          have hfz23_7:=zad HGz23 7
          have hfz23_8:=zad HGz23 8
          have hfz23_9:=zad HGz23 9
          have hfz23_10:=zad HGz23 10
          clear HGz23 hgz23
          have p5:0≤(x1001_1:Int):=of_decide_eq_true (by first|(with_reducible assumption)|assumption)
          have q5:x1001_1<(s0_0.size:Int):=of_decide_eq_true (by first|(with_reducible assumption)|assumption)
          have hx5:=bt_at s0_0 x1001_1
          replace p5:=eq_true p5
          replace q5:=eq_true q5
          go_wp2
          repeat (go_quiet (fail); try go_wp2)
          go_ret
          exact ⟨by first|rfl|(simp [zak,zaj]<;>rfl)|(simp [*,zak,zaj]<;>rfl),by repeat (first|(with_reducible first|exact HI0.out|apply IsS115.alloc|apply IsS115.drewN|apply IsS115.drew|apply IsS115.set_0|apply IsS115.set_1|apply IsS115.set_2|apply IsS115.set_3|apply IsS115.set_4|apply IsS115.set_5|apply IsS115.set_6|apply IsS115.set_7|apply IsS115.set_8|apply IsS115.set_9|apply IsS115.set_10)|exact HI0.out),by repeat (first|(with_reducible first|exact HB.out|apply zaa|apply zab|apply zae|refine zag ?_ (IsS115.ge HI0.out))|exact HB.out),by repeat (first|(with_reducible first|exact HK.out|apply KeepBut.set_|apply zbf|apply zbD|apply zbg)|exact HK.out)⟩
         ·rw [if_neg c22] at H
          exact absurd H (by simp)
        ·rw [if_neg c21] at H
         exact absurd H (by simp)
       ·rw [if_neg c20] at H
        exact absurd H (by simp)
      ·replace c19:=Bool.eq_false_iff.mpr c19
       subst c19
       have H1:(if 0≤s0_1 then (if s0_1≤x1001_1 then (if x1001_1≤(s0_0.size:Int) then (some (s0_0.extract (s0_1:Int).toNat (x1001_1:Int).toNat,s0_0,x1001_1,(x1001_1 == s0_1),s0_3,s0_4,s0_5,s0_6,s0_7,s0_8,s0_9,s0_10)) else (none)) else (none)) else (none))=some (r1,r2,r3,r4,r5,r6,r7,r8,r9,r10,r11,r12):=by rw [if_neg (show ¬ (false=true) by decide)] at H; exact H
       clear H
       have H:=H1
       clear H1
       by_cases c24:0≤s0_1
       ·rw [if_pos c24] at H
        have c24b0:=eq_true c24
        have c24b1:decide (0≤s0_1)=true:=decide_eq_true c24
        clear c24
        by_cases c25:s0_1≤x1001_1
        ·rw [if_pos c25] at H
         have c25b0:=eq_true c25
         have c25b1:decide (s0_1≤x1001_1)=true:=decide_eq_true c25
         clear c25
         by_cases c26:x1001_1≤(s0_0.size:Int)
         ·rw [if_pos c26] at H
          have c26b0:=eq_true c26
          have c26b1:decide (x1001_1≤(s0_0.size:Int))=true:=decide_eq_true c26
          clear c26
          simp only [Option.some.injEq,Prod.mk.injEq] at H
          obtain ⟨rfl,rfl,rfl,rfl,rfl,rfl,rfl,rfl,rfl,rfl,rfl,rfl⟩:=H
          obtain ⟨HGz27,hgz27⟩:=HI0.out
          have hcz27_0:=zbq HGz27
          have hcz27_1:=zbp HGz27
          have hcz27_2:=zbo HGz27
          have hcz27_3:=zbn HGz27
          have hcz27_4:=zbm HGz27
          have hcz27_5:=zbl HGz27
          have hcz27_6:=zbk HGz27
          have hcz27_7:=zbj HGz27
          have hcz27_8:=zbi HGz27
          have hcz27_9:=zbh HGz27
          have hcz27_10:=zba HGz27
          have hfz27_0:=zad HGz27 0
          have hfz27_1:=zad HGz27 1
          have hfz27_2:=zad HGz27 2
          have hfz27_3:=zad HGz27 3
          have hfz27_4:=zad HGz27 4
          have hfz27_5:=zad HGz27 5
          have hfz27_6:=zad HGz27 6
          have hfz27_7:=zad HGz27 7
          have hfz27_8:=zad HGz27 8
          have hfz27_9:=zad HGz27 9
          have hfz27_10:=zad HGz27 10
          clear HGz27 hgz27
          have p5:0≤(x1001_1:Int):=of_decide_eq_true (by first|(with_reducible assumption)|assumption)
          have q5:x1001_1<(s0_0.size:Int):=of_decide_eq_true (by first|(with_reducible assumption)|assumption)
          have hx5:=bt_at s0_0 x1001_1
          replace p5:=eq_true p5
          replace q5:=eq_true q5
          go_wp2
          repeat (go_quiet (fail); try go_wp2)
          go_ret
          exact ⟨by first|rfl|(simp [zak,zaj]<;>rfl)|(simp [*,zak,zaj]<;>rfl),by repeat (first|(with_reducible first|exact HI0.out|apply IsS115.alloc|apply IsS115.drewN|apply IsS115.drew|apply IsS115.set_0|apply IsS115.set_1|apply IsS115.set_2|apply IsS115.set_3|apply IsS115.set_4|apply IsS115.set_5|apply IsS115.set_6|apply IsS115.set_7|apply IsS115.set_8|apply IsS115.set_9|apply IsS115.set_10)|exact HI0.out),by repeat (first|(with_reducible first|exact HB.out|apply zaa|apply zab|apply zae|refine zag ?_ (IsS115.ge HI0.out))|exact HB.out),by repeat (first|(with_reducible first|exact HK.out|apply KeepBut.set_|apply zbf|apply zbD|apply zbg)|exact HK.out)⟩
         ·rw [if_neg c26] at H
          exact absurd H (by simp)
        ·rw [if_neg c25] at H
         exact absurd H (by simp)
       ·rw [if_neg c24] at H
        exact absurd H (by simp)
    ·rw [if_neg c4] at H
     exact absurd H (by simp)
   ·rw [if_neg c3] at H
    have c3b0:decide (x1001_1<(s0_0.size:Int))=false:=decide_eq_false c3
    clear c3
    by_cases c28:s0_2=true
    ·subst c28
     have H1:(if 0≤s0_1 then (if s0_1≤x1001_1 then (if x1001_1≤(s0_0.size:Int) then (some (s0_0.extract (s0_1:Int).toNat (x1001_1:Int).toNat,s0_0,x1001_1,true,s0_3,s0_4,s0_5,s0_6,s0_7,s0_8,s0_9,s0_10)) else (none)) else (none)) else (none))=some (r1,r2,r3,r4,r5,r6,r7,r8,r9,r10,r11,r12):=by rw [if_pos rfl] at H; exact H
     clear H
     have H:=H1
     clear H1
     by_cases c29:0≤s0_1
     ·rw [if_pos c29] at H
      have c29b0:=eq_true c29
      have c29b1:decide (0≤s0_1)=true:=decide_eq_true c29
      clear c29
      by_cases c30:s0_1≤x1001_1
      ·rw [if_pos c30] at H
       have c30b0:=eq_true c30
       have c30b1:decide (s0_1≤x1001_1)=true:=decide_eq_true c30
       clear c30
       by_cases c31:x1001_1≤(s0_0.size:Int)
       ·rw [if_pos c31] at H
        have c31b0:=eq_true c31
        have c31b1:decide (x1001_1≤(s0_0.size:Int))=true:=decide_eq_true c31
        clear c31
        simp only [Option.some.injEq,Prod.mk.injEq] at H
        obtain ⟨rfl,rfl,rfl,rfl,rfl,rfl,rfl,rfl,rfl,rfl,rfl,rfl⟩:=H
        obtain ⟨HGz32,hgz32⟩:=HI0.out
        have hcz32_0:=zbq HGz32
        have hcz32_1:=zbp HGz32
        have hcz32_2:=zbo HGz32
        have hcz32_3:=zbn HGz32
        have hcz32_4:=zbm HGz32
        have hcz32_5:=zbl HGz32
        have hcz32_6:=zbk HGz32
        have hcz32_7:=zbj HGz32
        have hcz32_8:=zbi HGz32
        have hcz32_9:=zbh HGz32
        have hcz32_10:=zba HGz32
        have hfz32_0:=zad HGz32 0
        have hfz32_1:=zad HGz32 1
        have hfz32_2:=zad HGz32 2
        have hfz32_3:=zad HGz32 3
        have hfz32_4:=zad HGz32 4
        have hfz32_5:=zad HGz32 5
        have hfz32_6:=zad HGz32 6
        have hfz32_7:=zad HGz32 7
        have hfz32_8:=zad HGz32 8
        have hfz32_9:=zad HGz32 9
        have hfz32_10:=zad HGz32 10
        clear HGz32 hgz32
        go_wp2
        repeat (go_quiet (fail); try go_wp2)
        go_ret
        exact ⟨by first|rfl|(simp [zak,zaj]<;>rfl)|(simp [*,zak,zaj]<;>rfl),by repeat (first|(with_reducible first|exact HI0.out|apply IsS115.alloc|apply IsS115.drewN|apply IsS115.drew|apply IsS115.set_0|apply IsS115.set_1|apply IsS115.set_2|apply IsS115.set_3|apply IsS115.set_4|apply IsS115.set_5|apply IsS115.set_6|apply IsS115.set_7|apply IsS115.set_8|apply IsS115.set_9|apply IsS115.set_10)|exact HI0.out),by repeat (first|(with_reducible first|exact HB.out|apply zaa|apply zab|apply zae|refine zag ?_ (IsS115.ge HI0.out))|exact HB.out),by repeat (first|(with_reducible first|exact HK.out|apply KeepBut.set_|apply zbf|apply zbD|apply zbg)|exact HK.out)⟩
       ·rw [if_neg c31] at H
        exact absurd H (by simp)
      ·rw [if_neg c30] at H
       exact absurd H (by simp)
     ·rw [if_neg c29] at H
      exact absurd H (by simp)
    ·replace c28:=Bool.eq_false_iff.mpr c28
     subst c28
     have H1:(if 0≤s0_1 then (if s0_1≤x1001_1 then (if x1001_1≤(s0_0.size:Int) then (some (s0_0.extract (s0_1:Int).toNat (x1001_1:Int).toNat,s0_0,x1001_1,(x1001_1 == s0_1),s0_3,s0_4,s0_5,s0_6,s0_7,s0_8,s0_9,s0_10)) else (none)) else (none)) else (none))=some (r1,r2,r3,r4,r5,r6,r7,r8,r9,r10,r11,r12):=by rw [if_neg (show ¬ (false=true) by decide)] at H; exact H
     clear H
     have H:=H1
     clear H1
     by_cases c33:0≤s0_1
     ·rw [if_pos c33] at H
      have c33b0:=eq_true c33
      have c33b1:decide (0≤s0_1)=true:=decide_eq_true c33
      clear c33
      by_cases c34:s0_1≤x1001_1
      ·rw [if_pos c34] at H
       have c34b0:=eq_true c34
       have c34b1:decide (s0_1≤x1001_1)=true:=decide_eq_true c34
       clear c34
       by_cases c35:x1001_1≤(s0_0.size:Int)
       ·rw [if_pos c35] at H
        have c35b0:=eq_true c35
        have c35b1:decide (x1001_1≤(s0_0.size:Int))=true:=decide_eq_true c35
        clear c35
        simp only [Option.some.injEq,Prod.mk.injEq] at H
        obtain ⟨rfl,rfl,rfl,rfl,rfl,rfl,rfl,rfl,rfl,rfl,rfl,rfl⟩:=H
        obtain ⟨HGz36,hgz36⟩:=HI0.out
        have hcz36_0:=zbq HGz36
        have hcz36_1:=zbp HGz36
        have hcz36_2:=zbo HGz36
        have hcz36_3:=zbn HGz36
        have hcz36_4:=zbm HGz36
        have hcz36_5:=zbl HGz36
        have hcz36_6:=zbk HGz36
        have hcz36_7:=zbj HGz36
        have hcz36_8:=zbi HGz36
        have hcz36_9:=zbh HGz36
        have hcz36_10:=zba HGz36
        have hfz36_0:=zad HGz36 0
        have hfz36_1:=zad HGz36 1
        have hfz36_2:=zad HGz36 2
        have hfz36_3:=zad HGz36 3
        have hfz36_4:=zad HGz36 4
        have hfz36_5:=zad HGz36 5
        have hfz36_6:=zad HGz36 6
        have hfz36_7:=zad HGz36 7
        have hfz36_8:=zad HGz36 8
        have hfz36_9:=zad HGz36 9
        have hfz36_10:=zad HGz36 10
        clear HGz36 hgz36
        go_wp2
        repeat (go_quiet (fail); try go_wp2)
        go_ret
        exact ⟨by first|rfl|(simp [zak,zaj]<;>rfl)|(simp [*,zak,zaj]<;>rfl),by repeat (first|(with_reducible first|exact HI0.out|apply IsS115.alloc|apply IsS115.drewN|apply IsS115.drew|apply IsS115.set_0|apply IsS115.set_1|apply IsS115.set_2|apply IsS115.set_3|apply IsS115.set_4|apply IsS115.set_5|apply IsS115.set_6|apply IsS115.set_7|apply IsS115.set_8|apply IsS115.set_9|apply IsS115.set_10)|exact HI0.out),by repeat (first|(with_reducible first|exact HB.out|apply zaa|apply zab|apply zae|refine zag ?_ (IsS115.ge HI0.out))|exact HB.out),by repeat (first|(with_reducible first|exact HK.out|apply KeepBut.set_|apply zbf|apply zbD|apply zbg)|exact HK.out)⟩
       ·rw [if_neg c35] at H
        exact absurd H (by simp)
      ·rw [if_neg c34] at H
       exact absurd H (by simp)
     ·rw [if_neg c33] at H
      exact absurd H (by simp)
end Go.Proofs.ZP
end
section
namespace Go.Proofs.ZP
open Go.RowKit Go.Proofs.ZW.Wa
structure Fm where
 at_:Nat
 bad:Bool
 neg:Bool
 m:ByteArray
 behind:Nat
 exp:ByteArray
 minus:Bool
 den:ByteArray
 fraction:Bool
 slash:Nat
def Fm.obj (s:ByteArray) (f:Fm):Array Value:=#[.string s,.int .i64 f.at_,.bool f.bad,.bool f.neg,.string f.m,.int .i64 f.behind,.string f.exp,.bool f.minus,.string f.den,.bool f.fraction,.int .i64 f.slash]
structure FSt (w0 w:World) (g:Nat) (s:ByteArray) (f:Fm):Prop where
 blk:w.heap[g]? = some (.cells (f.obj s) 115 (0,0))
 ge:w0.heap.size≤g
 below:Below w0.heap.size w0 w
def isD (c:UInt8):Bool:=decide (48≤c.toNat) && decide (c.toNat≤57)
def runN (l:List UInt8) (i:Nat):Nat:=i+((l.drop i).takeWhile isD).length
theorem runN_le {l:List UInt8} {i:Nat} (h:i≤l.length):runN l i≤l.length:=by
 unfold runN
 have:=(List.takeWhile_sublist isD (l:=l.drop i)).length_le
 rw [List.length_drop] at this
 omega
theorem runN_ge (l:List UInt8) (i:Nat):i≤runN l i:=Nat.le_add_right _ _
theorem runN_step {l:List UInt8} {i:Nat} (h:i<l.length) (hd:isD l[i]=true):runN l i=runN l (i+1):=by
 unfold runN
 rw [List.drop_eq_getElem_cons h,List.takeWhile_cons,if_pos hd,List.length_cons]; omega
theorem runN_stop {l:List UInt8} {i:Nat} (h:i<l.length) (hd:isD l[i]=false):runN l i=i:=by
 unfold runN
 rw [List.drop_eq_getElem_cons h,List.takeWhile_cons,if_neg (by rw [hd]; decide)]; rfl
theorem runN_end {l:List UInt8} {i:Nat} (h:l.length≤i):runN l i=i:=by
 unfold runN
 rw [List.drop_eq_nil_of_le h]; rfl
def Fm.digT (s:ByteArray) (f:Fm):ByteArray:=s.extract f.at_ (runN s.data.toList f.at_)
def Fm.dig (s:ByteArray) (f:Fm):Fm:={ f with at_:=runN s.data.toList f.at_,bad:=f.bad || decide (runN s.data.toList f.at_=f.at_) }
theorem digits_ev (s:ByteArray) (hs:s.size≤1099511627776) (fr:Nat) (bad neg:Bool) (m:ByteArray) (bh:Int) (ex:ByteArray) (mi:Bool) (de:ByteArray) (fc:Bool) (sl:Int):∀ (d i:Nat),s.size-i=d→fr≤i→i≤s.size →
  Ev (fun k=>rat_form_digits.l0 k (fr:Int) s (i:Int) bad neg m bh ex mi de fc sl) (s.extract fr (runN s.data.toList i),s,((runN s.data.toList i:Nat):Int),bad || decide (runN s.data.toList i=fr),neg,m,bh,ex,mi,de,fc,sl):=by
 have hl:s.data.toList.length=s.size:=zah s
 have hbool:∀ i:Nat,((i:Int) == (fr:Int))=decide (i=fr):=fun i=>by
  rw [Bool.eq_iff_iff]; simp only [beq_iff_eq,decide_eq_true_eq]; omega
 intro d
 induction d with
 | zero =>
  intro i hd hf hi
  have:i=s.size:=by omega
  subst this
  rw [runN_end (by omega)]
  cases bad
  ·refine Ev.step (f:=fun _=>some (s.extract fr s.size,s,((s.size:Nat):Int),false || decide (s.size=fr),neg,m,bh,ex,mi,de,fc,sl)) (fun k => ?_) (Ev.now _)
   simp only [rat_form_digits.l0]
   rw [if_neg (by omega),if_neg (by decide),if_pos (by omega),if_pos (by omega),if_pos (by omega),Int.toNat_natCast,Int.toNat_natCast,hbool,Bool.false_or]
  ·refine Ev.step (f:=fun _=>some (s.extract fr s.size,s,((s.size:Nat):Int),true || decide (s.size=fr),neg,m,bh,ex,mi,de,fc,sl)) (fun k => ?_) (Ev.now _)
   simp only [rat_form_digits.l0]
   rw [if_neg (by omega),if_pos trivial,if_pos (by omega),if_pos (by omega),if_pos (by omega),Int.toNat_natCast,Int.toNat_natCast,Bool.true_or]
 | succ d ih =>
  intro i hd hf hi
  have hil:i<s.data.toList.length:=by omega
  have hb:=bt_nth s hil
  by_cases h1:48≤s.data.toList[i].toNat
  ·by_cases h2:s.data.toList[i].toNat≤57
   ·have hD:isD s.data.toList[i]=true:=by unfold isD; rw [decide_eq_true h1,decide_eq_true h2]; rfl
    rw [runN_step hil hD]
    refine Ev.step (fun k => ?_) (ih (i+1) (by omega) (by omega) (by omega))
    simp only [rat_form_digits.l0]
    rw [if_pos (by omega),if_pos (by omega),hb,if_pos (by omega),if_pos (by omega),w64' (by omega) (by omega)]
    rfl
   ·have hD:isD s.data.toList[i]=false:=by unfold isD; rw [decide_eq_false h2,Bool.and_false]
    rw [runN_stop hil hD]
    cases bad
    ·refine Ev.step (f:=fun _=>some (s.extract fr i,s,((i:Nat):Int),false || decide (i=fr),neg,m,bh,ex,mi,de,fc,sl)) (fun k => ?_) (Ev.now _)
     simp only [rat_form_digits.l0]
     rw [if_pos (by omega),if_pos (by omega),hb,if_pos (by omega),if_neg (by omega),if_neg (by decide),if_pos (by omega),if_pos (by omega),if_pos (by omega),Int.toNat_natCast,Int.toNat_natCast,hbool,Bool.false_or]
    ·refine Ev.step (f:=fun _=>some (s.extract fr i,s,((i:Nat):Int),true || decide (i=fr),neg,m,bh,ex,mi,de,fc,sl)) (fun k => ?_) (Ev.now _)
     simp only [rat_form_digits.l0]
     rw [if_pos (by omega),if_pos (by omega),hb,if_pos (by omega),if_neg (by omega),if_pos trivial,if_pos (by omega),if_pos (by omega),if_pos (by omega),Int.toNat_natCast,Int.toNat_natCast,Bool.true_or]
  ·have hD:isD s.data.toList[i]=false:=by unfold isD; rw [decide_eq_false h1]; rfl
   rw [runN_stop hil hD]
   cases bad
   ·refine Ev.step (f:=fun _=>some (s.extract fr i,s,((i:Nat):Int),false || decide (i=fr),neg,m,bh,ex,mi,de,fc,sl)) (fun k => ?_) (Ev.now _)
    simp only [rat_form_digits.l0]
    rw [if_pos (by omega),if_pos (by omega),hb,if_neg (by omega),if_neg (by decide),if_pos (by omega),if_pos (by omega),if_pos (by omega),Int.toNat_natCast,Int.toNat_natCast,hbool,Bool.false_or]
   ·refine Ev.step (f:=fun _=>some (s.extract fr i,s,((i:Nat):Int),true || decide (i=fr),neg,m,bh,ex,mi,de,fc,sl)) (fun k => ?_) (Ev.now _)
    simp only [rat_form_digits.l0]
    rw [if_pos (by omega),if_pos (by omega),hb,if_neg (by omega),if_pos trivial,if_pos (by omega),if_pos (by omega),if_pos (by omega),Int.toNat_natCast,Int.toNat_natCast,Bool.true_or]
theorem zbF (w0 w:World) (g:Nat) (s:ByteArray) (f:Fm) (h:FSt w0 w g s f) (hs:s.size≤1099511627776) (ha:f.at_≤s.size) :
  Calls Tryz.prog 173 #[.pointer (some ⟨g,0,none⟩)] w fun e w'=>e = .returned (.string (f.digT s))∧FSt w0 w' g s (f.dig s):=by
 obtain ⟨k,hk⟩:=(digits_ev s hs f.at_ f.bad f.neg f.m f.behind f.exp f.minus f.den f.fraction f.slash (s.size-f.at_) f.at_ rfl (Nat.le_refl _) ha).rounds
 exact (rat_form_digits.calls k g s f.at_ f.bad f.neg f.m f.behind f.exp f.minus f.den f.fraction f.slash _ _ _ _ _ _ _ _ _ _ _ _ w0 w ⟨h.blk,h.ge⟩ h.below hk).mono fun e w' ⟨he,hI,hB,_⟩=>⟨he,hI.1,hI.2,hB⟩
def Fm.sgB (s:ByteArray) (set:ByteArray) (f:Fm):Bool:=!f.bad && decide (f.at_<s.size) && decide (s.data.toList.getD f.at_ 0∈set.data.toList)
def Fm.sgV (s:ByteArray) (set:ByteArray) (f:Fm):Int:=if f.sgB s set then ((s.data.toList.getD f.at_ 0).toNat:Int) else 0
def Fm.sgn (s:ByteArray) (set:ByteArray) (f:Fm):Fm:=if f.sgB s set then { f with at_:=f.at_+1 } else f
theorem FSt.drewN {w0 w:World} {g:Nat} {s:ByteArray} {f:Fm} (h:FSt w0 w g s f) (n:Nat):FSt w0 (w.drewN n) g s f:=⟨h.blk,h.ge,bthen h.below (zai _ _)⟩
theorem index_ge {l:List UInt8} {c:UInt8}:0≤Lib.indexByte l c↔c∈l:=by
 induction l with
 | nil=>simp [Lib.indexByte]
 | cons b l ih =>
  have hg:=Lib.indexByte_ge l c
  unfold Lib.indexByte
  by_cases h:b=c
  ·subst h
   simp
  ·have hb:(b == c)=false:=beq_eq_false_iff_ne.2 h
   have hc:c∈b :: l↔c∈l:=by
    rw [List.mem_cons]
    exact ⟨fun hh=>hh.elim (fun e=>absurd e.symm h) id,Or.inr⟩
   rw [hb,if_neg (by decide),hc,←ih]
   by_cases h1:Lib.indexByte l c = -1
   ·rw [h1]; decide
   ·have:(Lib.indexByte l c == -1)=false:=beq_eq_false_iff_ne.2 h1
    rw [this,if_neg (by decide)]
    omega
theorem zbO (w0 w:World) (g:Nat) (s set:ByteArray) (f:Fm) (h:FSt w0 w g s f) (hs:s.size≤1099511627776) (ha:f.at_≤s.size) :
  Calls Tryz.prog 172 #[.pointer (some ⟨g,0,none⟩),.string set] w fun e w'=>e = .returned (.int .u8 (f.sgV s set))∧FSt w0 w' g s (f.sgn s set):=by
 have c0:=(zaf h.blk 0).trans (show _=some (Value.string s) from rfl)
 have c1:=(zaf h.blk 1).trans (show _=some (Value.int .i64 f.at_) from rfl)
 have c2:=(zaf h.blk 2).trans (show _=some (Value.bool f.bad) from rfl)
 have f1:=zad h.blk 1
 have HH:=Lib.hid h
 clear h
 cases hbad:f.bad
 ·rw [hbad] at c2
  have HBAD:=Lib.hid hbad
  clear hbad
  by_cases hlt:f.at_<s.size
  ·have heq:((f.at_:Int) == (s.size:Int))=false:=beq_eq_false_iff_ne.2 (by omega)
   have hlI:(f.at_:Int)<(s.size:Int):=by omega
   have hI:=fun W=>Tryz.strings_IndexByte set ((s[f.at_]'hlt).toNat:Int) W
   have hby:((s[f.at_]'hlt).toNat:Int).toNat.toUInt8=s.data.toList.getD f.at_ 0:=by
    rw [Int.toNat_natCast,List.getD_eq_getElem?_getD,List.getElem?_eq_getElem (by rw [zah]; exact hlt),Option.getD_some]
    simp [ByteArray.getElem_eq_getElem_data,Nat.toUInt8]
   have hby2:((s[f.at_]'hlt).toNat:Int)=((s.data.toList.getD f.at_ 0).toNat:Int):=by
    rw [List.getD_eq_getElem?_getD,List.getElem?_eq_getElem (by rw [zah]; exact hlt),Option.getD_some]
    simp [ByteArray.getElem_eq_getElem_data]
   rw [hby] at hI
   by_cases hin:s.data.toList.getD f.at_ 0∈set.data.toList
   ·have hr:=index_ge.2 hin
    have hsb:f.sgB s set=true:=by unfold Fm.sgB; rw [HBAD.out,decide_eq_true hlt,decide_eq_true hin]; rfl
    have HV:=Lib.hid (show f.sgV s set=((s.data.toList.getD f.at_ 0).toNat:Int)∧f.sgn s set = { f with at_:=f.at_+1 } by unfold Fm.sgV Fm.sgn; rw [if_pos hsb,if_pos hsb]; exact ⟨rfl,rfl⟩)
    generalize Lib.indexByte set.data.toList (s.data.toList.getD f.at_ 0)=r at *
    have HB2:=Lib.hid hby2
    clear hby hby2 hsb hin
    go_enter Tryz.func172,Tryz.ntmps172
    go_wp2
    go_quiet ((go_at_call 223; exact Calls.quiet_of_same (hI _)))
    have hbk:=(HH.out.drewN nq).blk
    have hbl:=(HH.out.drewN nq).below
    have hge:=HH.out.ge
    have f1':=zad hbk 1
    generalize w.drewN nq=w2 at *
    have c1':=(zaf hbk 1).trans (show _=some (Value.int .i64 f.at_) from rfl)
    have hs1:=(zav hbk 1 (.int .i64 ((f.at_:Int)+1))).trans (show _=some (Obj.cells (Fm.obj s { f with at_:=f.at_+1 }) 115 (0,0)) from rfl)
    have hb1:=zag (g:=g) (j:=1) (v:=.int .i64 ((f.at_:Int)+1)) hbl hge
    have HS1:=Lib.hid hs1
    have HB1:=Lib.hid hb1
    have hnr:¬ r<0:=by omega
    clear hbk hs1 hb1 c0 c1 c2 f1 hI
    go_wp2
    generalize w2.setCell ⟨g,1,none⟩ (.int .i64 ((f.at_:Int)+1))=w3 at *
    have d0:=(zaf HS1.out 0).trans (show _=some (Value.string s) from rfl)
    have d1:=(zaf HS1.out 1).trans (show _=some (Value.int .i64 ((f.at_:Int)+1)) from rfl)
    have hwr:IntKind.i64.wrap ((f.at_:Int)+1-1)=(f.at_:Int):=by rw [IntKind.wrap_i64]; omega
    go_quiet (fail)
    clear hwr
    go_wp2
    go_ret
    exact ⟨by rw [HV.out.1,←HB2.out]; rfl,by rw [HV.out.2]; exact ⟨HS1.out,hge,bthen HB1.out (zai _ _)⟩⟩
   ·have hr:¬ 0≤Lib.indexByte set.data.toList (s.data.toList.getD f.at_ 0):=fun h=>hin (index_ge.1 h)
    have hsb:f.sgB s set=false:=by unfold Fm.sgB; rw [decide_eq_false hin,Bool.and_false]
    have HV:=Lib.hid (show f.sgV s set=0∧f.sgn s set=f by unfold Fm.sgV Fm.sgn; rw [hsb]; exact ⟨rfl,rfl⟩)
    generalize Lib.indexByte set.data.toList (s.data.toList.getD f.at_ 0)=r at *
    have hrn:r<0:=by omega
    clear hby hby2 hsb hin hr
    go_enter Tryz.func172,Tryz.ntmps172
    go_wp2
    go_quiet ((go_at_call 223; exact Calls.quiet_of_same (hI _)))
    go_wp2
    go_ret
    exact ⟨by rw [HV.out.1]; rfl,by rw [HV.out.2]; exact HH.out.drewN _⟩
  ·have he:f.at_=s.size:=by omega
   have heq:((f.at_:Int) == (s.size:Int))=true:=beq_iff_eq.2 (by omega)
   have hsb:f.sgB s set=false:=by unfold Fm.sgB; rw [decide_eq_false hlt,Bool.and_false,Bool.false_and]
   have HV:=Lib.hid (show f.sgV s set=0∧f.sgn s set=f by unfold Fm.sgV Fm.sgn; rw [hsb]; exact ⟨rfl,rfl⟩)
   clear hsb he
   go_enter Tryz.func172,Tryz.ntmps172
   go_wp2
   go_quiet (fail)
   go_wp2
   go_ret
   exact ⟨by rw [HV.out.1]; rfl,by rw [HV.out.2]; exact HH.out.drewN _⟩
 ·rw [hbad] at c2
  have HV:=Lib.hid (show f.sgV s set=0∧f.sgn s set=f by unfold Fm.sgV Fm.sgn Fm.sgB; rw [hbad]; exact ⟨rfl,rfl⟩)
  clear hbad
  go_enter Tryz.func172,Tryz.ntmps172
  go_wp2
  go_quiet (fail)
  go_wp2
  go_ret
  exact ⟨by rw [HV.out.1]; rfl,by rw [HV.out.2]; exact HH.out.drewN _⟩
end Go.Proofs.ZP
end
section
namespace Go.Proofs.ZQ
open Go.RowKit Go.Proofs.ZW.Wa Go.Proofs.ZP
noncomputable def rat_Right.f (a0_0 a0_1:ByteArray):Option Bool:=by classical exact some (decide (∃ x,RR a0_0 a0_1 x))
def rat_Of.f (a0:Int):Option (ByteArray×ByteArray):=if -9223372036854775808≤a0∧a0<9223372036854775808 then some (wtext a0,⟨#[49]⟩) else none
def nval (s:ByteArray):Option Nat:=if rightB s then some (dval s.data.toList) else none
noncomputable def wval (s:ByteArray):Option Int:=by classical exact if h:∃ x,WR s x then some h.choose else if s=⟨#[45,48]⟩ then some 0 else none
theorem wtext_inj {x y:Int} (h:wtext x=wtext y):x=y:=by
 have h2:(wtext x).data.toList=(wtext y).data.toList:=by rw [h]
 by_cases hx:x<0<;>by_cases hy:y<0
 ·rw [zaS hx,zaS hy] at h2
  injection h2 with _ h2
  have:=T_inj ((zaT h2).trans (zaT rfl).symm)
  omega
 ·rw [zaS hx,za5 (by omega)] at h2
  exact absurd h2.symm (zc3 _ _)
 ·rw [zaS hy,za5 (by omega)] at h2
  exact absurd h2 (zc3 _ _)
 ·rw [za5 (by omega),za5 (by omega)] at h
  have:=T_inj h
  omega
noncomputable def rat_New.f (a0 a1:ByteArray):Option (ByteArray×ByteArray×Int):=
 match wval a0,nval a1 with
 | some x,some n=>if n=0 then some (⟨#[]⟩,⟨#[]⟩,8) else some (toldR (Rat.divInt x n))
 | _,_=>some (⟨#[]⟩,⟨#[]⟩,3)
theorem ba_loop (s:ByteArray):∀ (d i:Nat) (r:List UInt8),d=s.size-i→ByteArray.toList.loop s i r=r.reverse++s.data.toList.drop i:=by
 have hl:s.data.toList.length=s.size:=zah s
 intro d
 induction d with
 | zero=>intro i r h; rw [ByteArray.toList.loop,if_neg (by omega),List.drop_eq_nil_of_le (by omega),List.append_nil]
 | succ d ih =>
  intro i r h
  have hi:i<s.data.toList.length:=by omega
  have hg:s.get! i=s.data.toList[i]:=by
   show s.data[i]! = _
   rw [getElem!_pos s.data i (by simpa using hi),Array.getElem_toList]
  rw [ByteArray.toList.loop,if_pos (by omega),ih (i+1) _ (by omega),List.drop_eq_getElem_cons hi,hg]
  simp
theorem ba_toList (s:ByteArray):s.toList=s.data.toList:=by
 unfold ByteArray.toList
 rw [ba_loop s s.size 0 [] (by omega)]; rfl
end Go.Proofs.ZQ
end
section
namespace Go.Proofs.ZP
open Go.RowKit Go.Proofs.ZW.Wa Go.Proofs.ZW.Wb Go.Proofs.ZW.Wc
attribute [local go_sem] zaH zaF zaW zaV zaA zaz zaG zaE
def c1_Of.l0:Nat→Int→ByteArray→Option (ByteArray)
 | 0,_,_=>none
 | k+1,x0,x3=>if x0>9 then ((some (([(IntKind.u64.wrap (48+(Int.tmod x0 10)))%256]:List Int):List Int)).bind fun y253=>(if (strOfNums y253).size+x3.size≤9223372036854775807 then (c1_Of.l0 k (IntKind.u64.wrap (Int.tdiv x0 10)) ((strOfNums y253)++x3)) else (none))) else ((some (([(IntKind.u64.wrap (48+x0))%256]:List Int):List Int)).bind fun y256=>(if (strOfNums y256).size+x3.size≤9223372036854775807 then (some ((strOfNums y256)++x3)) else (none)))
def c1_Of.f (k:Nat) (a0:Int):Option (ByteArray):=c1_Of.l0 k a0 (⟨#[]⟩:ByteArray)
end Go.Proofs.ZP
end
