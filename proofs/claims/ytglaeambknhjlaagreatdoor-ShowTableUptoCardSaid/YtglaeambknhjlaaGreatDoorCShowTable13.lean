/- Texts under the proof, joined by a program (prune.py): P105, HZeros, QRef4, Q183, Q184, Q135, Q185, Q136, Q137, Q187, QPure1, Q139, Q140, Q141, HAll, HTwo, QRatB, QPlus, Q196, Q212, Q240, QFr4, QRatC, QRatD, QComp, Q214, Q218, Q219, Q215, Q112, QFAdd, Q114, Q115, Q116, Q121, Q122, Q123, Q107, Q108, HFracs, HSetNeg, QRefOps, QShow1, QShow2. -/
import Derived.Test.YtglaeambknhjlaaGreatDoorCShowTable05
import Derived.Test.YtglaeambknhjlaaGreatDoorCShowTable12
import Derived.Test.YtglaeambknhjlaaGreatDoorCShowTable01
import Derived.Laws.CopyOwn
import Derived.Test.YtglaeambknhjlaaGreatDoorCShowTable08
import Derived.WalkSpells
import Derived.StillTailTactics
import Derived.Shelf.Abstract
import Derived.Test.YtglaeambknhjlaaGreatDoorCShowTable11
import Derived.Test.YtglaeambknhjlaaGreatDoorCShowTable09
set_option linter.unusedVariables false
set_option linter.unusedSimpArgs false
set_option exponentiation.threshold 20001
set_option maxHeartbeats 8000000
set_option maxRecDepth 100000
section
namespace Go.Proofs.YtglaeambknhjlaaGreatDoor.P
open Go.RowKit Go.Proofs.YtglaeambknhjlaaGreatDoorW.PrintWords Go.Proofs.YtglaeambknhjlaaGreatDoorW.PrintLast Go.Proofs.YtglaeambknhjlaaGreatDoorW.PrintMore
attribute [local go_sem] max2_int min2_int max_two min_two max_three min_three max_four min_four
def cubitref01_Common.l0:Nat→ByteArray→ByteArray→Option (ByteArray)
 | 0,_,_=>none
 | k+1,x0,x1=>if x1.toList=([48]:List UInt8) then (some x0) else ((cubitref01_Divide.f x0 x1).bind fun bt301=>(cubitref01_Common.l0 k x1 bt301.2))
def cubitref01_Common.f (k:Nat) (a0:ByteArray) (a1:ByteArray):Option (ByteArray):=cubitref01_Common.l0 k a0 a1
end Go.Proofs.YtglaeambknhjlaaGreatDoor.P
end
section
namespace Go.Proofs.YtglaeambknhjlaaGreatDoor.P
open Go.RowKit Go.Proofs.YtglaeambknhjlaaGreatDoorW.PrintWords
def zer (k:Nat):ByteArray:=⟨(List.replicate k (48:UInt8)).toArray⟩
def cubitref02_Zeros.f (a0:Int):Option ByteArray:=if 0≤a0∧a0≤1099511627776 then some (zer a0.toNat) else none
end Go.Proofs.YtglaeambknhjlaaGreatDoor.P
end
section
namespace Go.Proofs.YtglaeambknhjlaaGreatDoor.Q
open Go.RowKit Go.Proofs.YtglaeambknhjlaaGreatDoorW.PrintWords Go.Proofs.YtglaeambknhjlaaGreatDoor.P
def cubitref01_Minus.f (a0 a1:ByteArray):Option ByteArray:=P.cubitref01_Minus.f a0 a1
def cubitref01_Divide.f (a0 a1:ByteArray):Option (ByteArray×ByteArray):=P.cubitref01_Divide.f a0 a1
theorem T_zero:T 0=⟨#[48]⟩:=by unfold T; rw [decl_one (by decide)]; rfl
def cubitref01_Common.f (a0 a1:ByteArray):Option ByteArray:=(numT a0).bind fun x=>(numT a1).bind fun y=>some (T (Nat.gcd x y))
def cubitref02_Zeros.f (a0:Int):Option ByteArray:=P.cubitref02_Zeros.f a0
end Go.Proofs.YtglaeambknhjlaaGreatDoor.Q
end
section
namespace Go.Proofs.YtglaeambknhjlaaGreatDoor.Q
open Go.RowKit Go.Proofs.YtglaeambknhjlaaGreatDoorW.PrintWords Go.Proofs.YtglaeambknhjlaaGreatDoorW.PrintLast Go.Proofs.YtglaeambknhjlaaGreatDoorW.PrintMore
attribute [local go_sem] max2_int min2_int max_two min_two max_three min_three max_four min_four
noncomputable def cubitref02_Told.j0:Nat→Bool→Bool→ByteArray→ByteArray→Option (ByteArray×ByteArray×Int)
 | 0,_,_,_,_=>none
 | k+1,x13,x558000,x558001,x558002=>if x13=true then (some ((⟨#[]⟩:ByteArray),(⟨#[]⟩:ByteArray),7)) else (if x558000=true then (if 1+x558001.size≤9223372036854775807 then (some ((⟨#[45]⟩:ByteArray)++x558001,x558002,0)) else (none)) else (some (x558001,x558002,0)))
noncomputable def cubitref02_Told.f (k:Nat) (a0_0:Bool) (a0_1:ByteArray) (a0_2:ByteArray):Option (ByteArray×ByteArray×Int):=if (a0_1.size:Int)>600 then (cubitref02_Told.j0 k true a0_0 a0_1 a0_2) else (cubitref02_Told.j0 k (decide ((a0_2.size:Int)>600)) a0_0 a0_1 a0_2)
noncomputable def cubitref02_Lowest.f (a0:Bool) (a1:ByteArray) (a2:ByteArray):Option (Bool×ByteArray×ByteArray):=if a1.toList=([48]:List UInt8) then (some (false,(⟨#[48]⟩:ByteArray),(⟨#[49]⟩:ByteArray))) else ((cubitref01_Common.f a1 a2).bind fun t560=>((cubitref01_Divide.f a1 t560).bind fun bt561=>((cubitref01_Divide.f a2 t560).bind fun bt563=>(some (a0,bt561.1,bt563.1)))))
noncomputable def cubitref02_Right.j0:Nat→ByteArray→Bool→ByteArray→ByteArray→Option (Bool)
 | 0,_,_,_,_=>none
 | k+1,x3,x12,x407000,x407001=>if x12=true then (if 1≤(x3.size:Int) then (if (x3.extract 1 x3.size).toList=([48]:List UInt8) then (some false) else ((cubitref01_Right.f (x3.extract 1 x3.size)).bind fun t407=>(if t407=true then ((cubitref01_Right.f x407001).bind fun t408=>(if t408=true then (if x407001.toList=([48]:List UInt8) then (some false) else ((cubitref01_Common.f (x3.extract 1 x3.size) x407001).bind fun t409=>(some (t409.toList == ([49]:List UInt8))))) else (some false))) else (some false)))) else (none)) else ((cubitref01_Right.f x3).bind fun t410=>(if t410=true then ((cubitref01_Right.f x407001).bind fun t411=>(if t411=true then (if x407001.toList=([48]:List UInt8) then (some false) else ((cubitref01_Common.f x3 x407001).bind fun t412=>(some (t412.toList == ([49]:List UInt8))))) else (some false))) else (some false)))
noncomputable def cubitref02_Right.f (k:Nat) (a0_0:ByteArray) (a0_1:ByteArray):Option (Bool):=if a0_0.toList=([]:List UInt8) then (cubitref02_Right.j0 k a0_0 false a0_0 a0_1) else (if 0<(a0_0.size:Int) then (cubitref02_Right.j0 k a0_0 ((bt a0_0 0) == 45) a0_0 a0_1) else (none))
mutual
noncomputable def cubitref02_New.j0:Nat→ByteArray→ByteArray→Bool→Option (ByteArray×ByteArray×Int)
 | 0,_,_,_=>none
 | k+1,x0,x1,x6=>if x6=true then (if 1≤(x0.size:Int) then (cubitref02_New.j1 k (x0.extract 1 x0.size) x1 x6) else (none)) else (cubitref02_New.j1 k x0 x1 x6)
noncomputable def cubitref02_New.j1:Nat→ByteArray→ByteArray→Bool→Option (ByteArray×ByteArray×Int)
 | 0,_,_,_=>none
 | k+1,x0,x1,x6=>(cubitref01_Right.f x0).bind fun t566=>(if t566=true then ((cubitref01_Right.f x1).bind fun t567=>(cubitref02_New.j2 k x0 x1 x6 (!t567))) else (cubitref02_New.j2 k x0 x1 x6 true))
noncomputable def cubitref02_New.j2:Nat→ByteArray→ByteArray→Bool→Bool→Option (ByteArray×ByteArray×Int)
 | 0,_,_,_,_=>none
 | k+1,x0,x1,x6,x24=>if x24=true then (some ((⟨#[]⟩:ByteArray),(⟨#[]⟩:ByteArray),3)) else (if x1.toList=([48]:List UInt8) then (some ((⟨#[]⟩:ByteArray),(⟨#[]⟩:ByteArray),8)) else ((cubitref02_Lowest.f x6 x0 x1).bind fun bt568=>((cubitref02_Told.f k bt568.1 bt568.2.1 bt568.2.2).bind fun bt571=>(some (bt571.1,bt571.2.1,bt571.2.2)))))
end
noncomputable def cubitref02_New.f (k:Nat) (a0:ByteArray) (a1:ByteArray):Option (ByteArray×ByteArray×Int):=if a0.toList=([]:List UInt8) then (cubitref02_New.j0 k a0 a1 false) else (if 0<(a0.size:Int) then (cubitref02_New.j0 k a0 a1 ((bt a0 0) == 45)) else (none))
noncomputable def cubitref02_Whole.f (a0:Int):Option (Bool×ByteArray×ByteArray):=if a0<0 then ((cubitref01_Of.f (IntKind.u64.wrap ((IntKind.u64.wrap (wrap64 (-(wrap64 (a0+1)))))+1))).bind fun t414=>(some (true,t414,(⟨#[49]⟩:ByteArray)))) else ((cubitref01_Of.f (IntKind.u64.wrap (a0))).bind fun t415=>(some (false,t415,(⟨#[49]⟩:ByteArray))))
noncomputable def cubitref02_Read.j0:Nat→Bool→ByteArray→ByteArray→Option (Bool×ByteArray×ByteArray)
 | 0,_,_,_=>none
 | k+1,x10,x417000,x417001=>if x10=true then ((cubitref02_Whole.f 0).bind fun bt418=>(some (bt418.1,bt418.2.1,bt418.2.2))) else (if 0<(x417000.size:Int) then (if (bt x417000 0)=45 then (if 1≤(x417000.size:Int) then (some (true,x417000.extract 1 x417000.size,x417001)) else (none)) else (some (false,x417000,x417001))) else (none))
noncomputable def cubitref02_Read.f (k:Nat) (a0_0:ByteArray) (a0_1:ByteArray):Option (Bool×ByteArray×ByteArray):=if a0_0.toList=([]:List UInt8) then (cubitref02_Read.j0 k true a0_0 a0_1) else (cubitref02_Read.j0 k (a0_1.toList == ([]:List UInt8)) a0_0 a0_1)
noncomputable def cubitref02_Of.f (k:Nat) (a0:Int):Option (ByteArray×ByteArray):=(cubitref02_Whole.f a0).bind fun bt575=>((cubitref02_Told.f k bt575.1 bt575.2.1 bt575.2.2).bind fun bt578=>(some (bt578.1,bt578.2.1)))
end Go.Proofs.YtglaeambknhjlaaGreatDoor.Q
end
section
namespace Go.Proofs.YtglaeambknhjlaaGreatDoor.Q
open Go.RowKit Go.Proofs.YtglaeambknhjlaaGreatDoorW.PrintWords Go.Proofs.YtglaeambknhjlaaGreatDoor.P
theorem wtext_neg {x:Int} (h:x<0):wtext x=(⟨#[45]⟩:ByteArray)++T x.natAbs:=by
 refine (ba_of_data (wtext_neg_data h)).trans (ba_of_data ?_).symm
 simp
theorem b48 {s:ByteArray}:s.toList=([48]:List UInt8)↔s=T 0:=by
 rw [ba_toList]
 constructor
 ·intro h; rw [T_zero]; exact ba_of_data h
 ·rintro rfl; rw [T_zero]
end Go.Proofs.YtglaeambknhjlaaGreatDoor.Q
end
section
namespace Go.Proofs.YtglaeambknhjlaaGreatDoor.Q
open Go.RowKit Go.Proofs.YtglaeambknhjlaaGreatDoorW.PrintWords Go.Proofs.YtglaeambknhjlaaGreatDoorW.PrintLast Go.Proofs.YtglaeambknhjlaaGreatDoorW.PrintMore
attribute [local go_sem] max2_int min2_int max_two min_two max_three min_three max_four min_four
noncomputable def cubitref02_Near.f (a0:ByteArray) (a1:ByteArray):Option (ByteArray):=(cubitref01_Divide.f a0 a1).bind fun bt421=>((cubitref01_Times.f bt421.2 (⟨#[50]⟩:ByteArray)).bind fun t423=>((cubitref01_Compare.f t423 a1).bind fun t424=>(if t424>0 then ((cubitref01_Plus.f bt421.1 (⟨#[49]⟩:ByteArray)).bind fun t425=>(some t425)) else (if t424=0 then (if 0≤(wrap64 ((bt421.1.size:Int)-1)) then (if (wrap64 ((bt421.1.size:Int)-1))<(bt421.1.size:Int) then (if ((((bt bt421.1 (wrap64 ((bt421.1.size:Int)-1)))-48)%256)%2)=1 then ((cubitref01_Plus.f bt421.1 (⟨#[49]⟩:ByteArray)).bind fun t426=>(some t426)) else (some bt421.1)) else (none)) else (none)) else (some bt421.1)))))
noncomputable def cubitref02_Steps.f (a0_0:Bool) (a0_1:ByteArray) (a0_2:ByteArray) (a1:Int):Option (ByteArray):=if a1≥0 then ((cubitref02_Zeros.f a1).bind fun t428=>(if 1+t428.size≤9223372036854775807 then ((cubitref01_Times.f a0_1 ((⟨#[49]⟩:ByteArray)++t428)).bind fun t429=>((cubitref02_Near.f t429 a0_2).bind fun t430=>(some t430))) else (none))) else ((cubitref02_Zeros.f (wrap64 (-a1))).bind fun t431=>(if 1+t431.size≤9223372036854775807 then ((cubitref01_Times.f a0_2 ((⟨#[49]⟩:ByteArray)++t431)).bind fun t432=>((cubitref02_Near.f a0_1 t432).bind fun t433=>(some t433))) else (none)))
noncomputable def cubitref02_Steps.B2:List Nat:=[0,1,0,4,12,31,0,64,255,511]
mutual
noncomputable def cubitref02_Digits.j0:Nat→Int→Bool→ByteArray→ByteArray→Option (ByteArray×Int)
 | 0,_,_,_,_=>none
 | k+1,x1,x17,x435000,x435001=>if x17=true then (some ((⟨#[]⟩:ByteArray),1)) else ((cubitref02_Read.f k x435000 x435001).bind fun bt436=>((cubitref02_Steps.f bt436.1 bt436.2.1 bt436.2.2 x1).bind fun t440=>(if (t440.size:Int)>600 then (some ((⟨#[]⟩:ByteArray),7)) else (if bt436.1=true then (cubitref02_Digits.j1 k x1 t440 (⟨#[]⟩:ByteArray) (t440.toList != ([48]:List UInt8))) else (cubitref02_Digits.j1 k x1 t440 (⟨#[]⟩:ByteArray) false)))))
noncomputable def cubitref02_Digits.j1:Nat→Int→ByteArray→ByteArray→Bool→Option (ByteArray×Int)
 | 0,_,_,_,_=>none
 | k+1,x1,x7,x8,x31=>if x31=true then (cubitref02_Digits.j2 k x1 x7 (⟨#[45]⟩:ByteArray)) else (cubitref02_Digits.j2 k x1 x7 x8)
noncomputable def cubitref02_Digits.j2:Nat→Int→ByteArray→ByteArray→Option (ByteArray×Int)
 | 0,_,_,_=>none
 | k+1,x1,x7,x8=>if (x7.size:Int)≤x1 then ((cubitref02_Zeros.f (wrap64 ((wrap64 (x1+1))-(x7.size:Int)))).bind fun t441=>(if t441.size+x7.size≤9223372036854775807 then (if x1=0 then (if x8.size+(t441++x7).size≤9223372036854775807 then (some (x8++(t441++x7),0)) else (none)) else (if 0≤(wrap64 (((t441++x7).size:Int)-x1)) then (if (wrap64 (((t441++x7).size:Int)-x1))≤((t441++x7).size:Int) then (if x8.size+((t441++x7).extract 0 ((wrap64 (((t441++x7).size:Int)-x1)):Int).toNat).size≤9223372036854775807 then (if (x8++((t441++x7).extract 0 ((wrap64 (((t441++x7).size:Int)-x1)):Int).toNat)).size+1≤9223372036854775807 then (if ((x8++((t441++x7).extract 0 ((wrap64 (((t441++x7).size:Int)-x1)):Int).toNat))++(⟨#[46]⟩:ByteArray)).size+((t441++x7).extract ((wrap64 (((t441++x7).size:Int)-x1)):Int).toNat (t441++x7).size).size≤9223372036854775807 then (some (((x8++((t441++x7).extract 0 ((wrap64 (((t441++x7).size:Int)-x1)):Int).toNat))++(⟨#[46]⟩:ByteArray))++((t441++x7).extract ((wrap64 (((t441++x7).size:Int)-x1)):Int).toNat (t441++x7).size),0)) else (none)) else (none)) else (none)) else (none)) else (none))) else (none))) else (if x1=0 then (if x8.size+x7.size≤9223372036854775807 then (some (x8++x7,0)) else (none)) else (if 0≤(wrap64 ((x7.size:Int)-x1)) then (if (wrap64 ((x7.size:Int)-x1))≤(x7.size:Int) then (if x8.size+(x7.extract 0 ((wrap64 ((x7.size:Int)-x1)):Int).toNat).size≤9223372036854775807 then (if (x8++(x7.extract 0 ((wrap64 ((x7.size:Int)-x1)):Int).toNat)).size+1≤9223372036854775807 then (if ((x8++(x7.extract 0 ((wrap64 ((x7.size:Int)-x1)):Int).toNat))++(⟨#[46]⟩:ByteArray)).size+(x7.extract ((wrap64 ((x7.size:Int)-x1)):Int).toNat x7.size).size≤9223372036854775807 then (some (((x8++(x7.extract 0 ((wrap64 ((x7.size:Int)-x1)):Int).toNat))++(⟨#[46]⟩:ByteArray))++(x7.extract ((wrap64 ((x7.size:Int)-x1)):Int).toNat x7.size),0)) else (none)) else (none)) else (none)) else (none)) else (none)))
end
noncomputable def cubitref02_Digits.f (k:Nat) (a0_0:ByteArray) (a0_1:ByteArray) (a1:Int):Option (ByteArray×Int):=(cubitref02_Right.f k a0_0 a0_1).bind fun t435=>(if t435=true then (if a1<0 then (cubitref02_Digits.j0 k a1 true a0_0 a0_1) else (cubitref02_Digits.j0 k a1 (decide (a1>600)) a0_0 a0_1)) else (some ((⟨#[]⟩:ByteArray),3)))
end Go.Proofs.YtglaeambknhjlaaGreatDoor.Q
end
section
namespace Go.Proofs.YtglaeambknhjlaaGreatDoor.P
open Go.RowKit Go.Proofs.YtglaeambknhjlaaGreatDoorW.PrintWords
def RowR (w:World) (A:Option Addr) (ps:List (ByteArray×ByteArray)):Prop:=
 ∀ j (h:j<ps.length),∃ b o,A=some ⟨b,o,none⟩∧b<w.heap.size∧w.cell? ⟨b,o+j*2,none⟩=some (.string ps[j].1)∧w.cell? ⟨b,o+j*2+1,none⟩=some (.string ps[j].2)
theorem RowR.below {w w':World} {A:Option Addr} {ps:List (ByteArray×ByteArray)} (h:RowR w A ps) (hb:Below w.heap.size w w'):RowR w' A ps:=fun j hj=>by
 obtain ⟨b,o,e,hl,h1,h2⟩:=h j hj
 have hs:=hb.size
 exact ⟨b,o,e,by omega,(hb.cell (p:=⟨b,o+j*2,none⟩) hl).trans h1,(hb.cell (p:=⟨b,o+j*2+1,none⟩) hl).trans h2⟩
def ptrs (n:Nat) (ds:List Nat):List Value:=ds.map (fun d=>Value.pointer (some ⟨d,0,none⟩))++List.replicate (n-ds.length) (.pointer none)
theorem ptrs_length {n:Nat} {ds:List Nat} (h:ds.length≤n):(ptrs n ds).length=n:=by unfold ptrs; simp; omega
theorem ptrs_snoc {n:Nat} {ds:List Nat} (h:ds.length<n) (d:Nat):(ptrs n ds).take ds.length++([Value.pointer (some ⟨d,0,none⟩)]++(ptrs n ds).drop (ds.length+1))=ptrs n (ds ++ [d]):=by
 have hl:(ds.map (fun d=>Value.pointer (some ⟨d,0,none⟩))).length=ds.length:=by simp
 unfold ptrs
 rw [List.take_left' hl,List.drop_append,hl,show ds.length+1-ds.length=1 by omega,List.drop_of_length_le (by rw [hl]; omega),List.nil_append,List.drop_replicate]
 simp only [List.map_append,List.map_cons,List.map_nil,List.length_append,List.length_singleton,List.append_assoc]
 congr 3
theorem upd_setRow {w:World} {g:Nat} {cur new:Array Value} {t:TypeId} (hg:w.heap[g]? = some (.cells cur t (0,0))) (ht:t≠171) (hs:new.size=cur.size):Upd w (w.setRow g new) g 0 cur.size where
 os:=rfl
 tape:=rfl
 output:=rfl
 size:=by simp [World.setRow]
 other:=fun k _ hne=>setRow_other w g k new hne
 word:=fun k cs' hk=>setRow_other w g k new (by
  rintro rfl
  rw [hg] at hk
  injection hk with hk
  injection hk with _ hk
  exact ht hk)
 same:=fun cs' t' hk=>by
  rw [hg] at hk
  injection hk with hk
  injection hk with e1 e2
  subst e1; subst e2
  exact ⟨new,setRow_heap w g cur new t (0,0) hg,hs,fun i hi=>by
   rcases hi with hi|hi
   ·omega
   ·rw [Array.getElem?_eq_none (by omega),Array.getElem?_eq_none (by omega)]⟩
structure ASt (w wr:World) (g n:Nat) (X:Nat→Rat) (ds:List Nat):Prop where
 le:ds.length≤n
 blk:wr.heap[g]? = some (.cells (ptrs n ds).toArray 82 (0,0))
 at_:∀ j (h:j<ds.length),w.heap.size≤ds[j]∧g≠ds[j]∧RatAt wr ds[j] (X j)
 below:Below w.heap.size w wr
 ge:w.heap.size≤g
theorem ASt.more {w wr:World} {g n:Nat} {X:Nat→Rat} {ds:List Nat} (h:ASt w wr g n X ds) (hl:ds.length<n) (d:Nat) (hd:w.heap.size≤d) (hne:g≠d) (hx:RatAt wr d (X ds.length)) :
  Hid (ASt w (wr.setRow g ((ptrs n ds).take ds.length++([Value.pointer (some ⟨d,0,none⟩)]++(ptrs n ds).drop (ds.length+1))).toArray) g n X (ds ++ [d])):=by
 rw [ptrs_snoc hl]
 have hu:=upd_setRow (new:=(ptrs n (ds ++ [d])).toArray) h.blk (by decide) (by
  simp only [List.size_toArray]
  rw [ptrs_length (by simp; omega),ptrs_length h.le])
 exact {
  le:=by simp; omega
  blk:=setRow_heap _ _ _ _ _ _ h.blk
  at_:=fun j hj=>by
   rw [List.length_append,List.length_singleton] at hj
   by_cases e:j<ds.length
   ·obtain ⟨h1,h2,h3⟩:=h.at_ j e
    rw [List.getElem_append_left e]
    exact ⟨h1,h2,h3.upd hu (fun e=>h2 e.symm)⟩
   ·have:j=ds.length:=by omega
    subst this
    rw [List.getElem_append_right (Nat.le_refl _)]
    simp only [Nat.sub_self,List.getElem_cons_zero]
    exact ⟨hd,hne,hx.upd hu (fun e=>hne e.symm)⟩
  below:=below_setRow h.below h.ge _
  ge:=h.ge }
theorem Upd.keepB {w w':World} {b lo hi:Nat} (h:Upd w w' b lo hi):KeepB w w' b:=⟨h.os,h.tape,h.output,h.size,h.other⟩
noncomputable def tell (why:Int) (r:Rat):ByteArray×ByteArray×Int:=if why=0 then toldR r else (⟨#[]⟩,⟨#[]⟩,why)
end Go.Proofs.YtglaeambknhjlaaGreatDoor.P
end
section
namespace Go.Proofs.YtglaeambknhjlaaGreatDoor.Q
open Go.RowKit Go.Proofs.YtglaeambknhjlaaGreatDoorW.PrintWords Go.Proofs.YtglaeambknhjlaaGreatDoor.P
noncomputable def twoF (why:Rat→Rat→Int) (op:Rat→Rat→Rat) (a0 a1 b0 b1:ByteArray):Option (ByteArray×ByteArray×Int):=by
 classical exact if h:(∃ x,RR a0 a1 x)∧∃ y,RR b0 b1 y then some (tell (why h.1.choose h.2.choose) (op h.1.choose h.2.choose)) else some (⟨#[]⟩,⟨#[]⟩,3)
noncomputable def oneF (why:Rat→Int) (op:Rat→Rat) (a0 a1:ByteArray):Option (ByteArray×ByteArray×Int):=by
 classical exact if h:∃ x,RR a0 a1 x then some (tell (why h.choose) (op h.choose)) else some (⟨#[]⟩,⟨#[]⟩,3)
noncomputable def rat_Add.f (a0_0 a0_1 a1_0 a1_1:ByteArray):Option (ByteArray×ByteArray×Int):=twoF (fun x y=>0) (fun x y=>x+y) a0_0 a0_1 a1_0 a1_1
noncomputable def rat_Sub.f (a0_0 a0_1 a1_0 a1_1:ByteArray):Option (ByteArray×ByteArray×Int):=twoF (fun x y=>0) (fun x y=>x-y) a0_0 a0_1 a1_0 a1_1
noncomputable def rat_Mul.f (a0_0 a0_1 a1_0 a1_1:ByteArray):Option (ByteArray×ByteArray×Int):=twoF (fun x y=>0) (fun x y=>x*y) a0_0 a0_1 a1_0 a1_1
noncomputable def rat_Neg.f (a0_0 a0_1:ByteArray):Option (ByteArray×ByteArray×Int):=oneF (fun x=>0) (fun x => -x) a0_0 a0_1
noncomputable def rat_Quo.f (a0_0 a0_1 a1_0 a1_1:ByteArray):Option (ByteArray×ByteArray×Int):=twoF (fun x y=>if y=0 then 8 else 0) (fun x y=>x/y) a0_0 a0_1 a1_0 a1_1
noncomputable def rat_Inv.f (a0_0 a0_1:ByteArray):Option (ByteArray×ByteArray×Int):=oneF (fun x=>if x=0 then 8 else 0) (fun x=>x⁻¹) a0_0 a0_1
end Go.Proofs.YtglaeambknhjlaaGreatDoor.Q
end
section
namespace Go.Proofs.YtglaeambknhjlaaGreatDoor.Q
open Go.RowKit Go.Proofs.YtglaeambknhjlaaGreatDoorW.PrintWords Go.Proofs.YtglaeambknhjlaaGreatDoor.P Go.Proofs.YtglaeambknhjlaaGreatDoorW.PrintLast Go.Proofs.YtglaeambknhjlaaGreatDoorW.PrintMore
def FrAt (w:World) (b:Nat) (s:Bool) (x y:ByteArray):Prop:=w.heap[b]? = some (.cells #[.bool s,.string x,.string y] 66 (0,0))
theorem FrAt.c0 {w:World} {b:Nat} {s:Bool} {x y:ByteArray} (h:FrAt w b s x y):w.cell? ⟨b,0,none⟩=some (.bool s):=(blk_cell h 0).trans rfl
theorem FrAt.c1 {w:World} {b:Nat} {s:Bool} {x y:ByteArray} (h:FrAt w b s x y):w.cell? ⟨b,1,none⟩=some (.string x):=(blk_cell h 1).trans rfl
theorem FrAt.c2 {w:World} {b:Nat} {s:Bool} {x y:ByteArray} (h:FrAt w b s x y):w.cell? ⟨b,2,none⟩=some (.string y):=(blk_cell h 2).trans rfl
theorem FrAt.below {w w':World} {b:Nat} {s:Bool} {x y:ByteArray} (h:FrAt w b s x y) (hb:Below w.heap.size w w'):FrAt w' b s x y:=(hb.block _ (blk_lt h)).trans h
theorem FrAt.keep {w w':World} {b n:Nat} {s:Bool} {x y:ByteArray} (h:FrAt w b s x y) (hb:Below n w w') (hn:b<n):FrAt w' b s x y:=(hb.block _ hn).trans h
theorem FrAt.new (w:World) (s:Bool) (x y:ByteArray):FrAt (w.alloc (.cells #[.bool s,.string x,.string y] 66)) w.heap.size s x y:=blk_new w _
theorem FrAt.alloc {w:World} {b:Nat} {s:Bool} {x y:ByteArray} (h:FrAt w b s x y) (o:Obj):FrAt (w.alloc o) b s x y:=h.below (below_alloc (Below.refl _ _) _)
noncomputable def cubitref02_Plus.f (a0_0:Bool) (a0_1:ByteArray) (a0_2:ByteArray) (a1_0:Bool) (a1_1:ByteArray) (a1_2:ByteArray):Option (Bool×ByteArray×ByteArray):=(cubitref01_Times.f a0_1 a1_2).bind fun t601=>((cubitref01_Times.f a1_1 a0_2).bind fun t602=>((cubitref01_Times.f a0_2 a1_2).bind fun t603=>(if (a0_0 == a1_0)=true then ((cubitref01_Plus.f t601 t602).bind fun t604=>((cubitref02_Lowest.f a0_0 t604 t603).bind fun bt605=>(some (bt605.1,bt605.2.1,bt605.2.2)))) else ((cubitref01_Compare.f t601 t602).bind fun t608=>(if t608≥0 then ((cubitref01_Minus.f t601 t602).bind fun t609=>((cubitref02_Lowest.f a0_0 t609 t603).bind fun bt610=>(some (bt610.1,bt610.2.1,bt610.2.2)))) else ((cubitref01_Minus.f t602 t601).bind fun t613=>((cubitref02_Lowest.f a1_0 t613 t603).bind fun bt614=>(some (bt614.1,bt614.2.1,bt614.2.2)))))))))
end Go.Proofs.YtglaeambknhjlaaGreatDoor.Q
end
section
namespace Go.Proofs.YtglaeambknhjlaaGreatDoor.Q
open Go.RowKit Go.Proofs.YtglaeambknhjlaaGreatDoorW.PrintWords Go.Proofs.YtglaeambknhjlaaGreatDoorW.PrintLast Go.Proofs.YtglaeambknhjlaaGreatDoorW.PrintMore
attribute [local go_sem] max2_int min2_int max_two min_two max_three min_three max_four min_four
noncomputable def cubitref02_Times.f (a0_0:Bool) (a0_1:ByteArray) (a0_2:ByteArray) (a1_0:Bool) (a1_1:ByteArray) (a1_2:ByteArray):Option (Bool×ByteArray×ByteArray):=(cubitref01_Times.f a0_1 a1_1).bind fun t618=>((cubitref01_Times.f a0_2 a1_2).bind fun t619=>((cubitref02_Lowest.f (a0_0 != a1_0) t618 t619).bind fun bt620=>(some (bt620.1,bt620.2.1,bt620.2.2))))
noncomputable def cubitref02_Times.B1:List Nat:=[0,1,0,4,15,0,32,0,128,480,0,1024,0,4096,16352,32767,65535]
noncomputable def cubitref02_Minus.f (a0_0:Bool) (a0_1:ByteArray) (a0_2:ByteArray):Option (Bool×ByteArray×ByteArray):=if a0_0=true then (some (false,a0_1,a0_2)) else (some ((a0_1.toList != ([48]:List UInt8)),a0_1,a0_2))
noncomputable def cubitref02_Over.f (a0_0:Bool) (a0_1:ByteArray) (a0_2:ByteArray):Option (Bool×ByteArray×ByteArray):=some (a0_0,a0_2,a0_1)
end Go.Proofs.YtglaeambknhjlaaGreatDoor.Q
end
section
namespace Go.Proofs.YtglaeambknhjlaaGreatDoor.Q
open Go.RowKit Go.Proofs.YtglaeambknhjlaaGreatDoorW.PrintWords Go.Proofs.YtglaeambknhjlaaGreatDoor.P
def Sz (k:Nat) (x:Rat):Prop:=(T x.num.natAbs).size≤k∧(T x.den).size≤k
theorem rr_sz {a b:ByteArray} {x:Rat} (h:RR a b x):Sz 600 x:=⟨(T_size_le (k:=600) (by decide)).2 h.ln,(T_size_le (k:=600) (by decide)).2 h.ld⟩
theorem rr_zero {a b:ByteArray} {y:Rat} (h:RR a b y):a.toList=([48]:List UInt8)↔y=0:=by
 rw [b48,h.num]
 have e0:T 0=wtext 0:=(wtext_pos (x:=0) (by decide)).symm
 constructor
 ·intro e
  rw [e0] at e
  exact Rat.num_eq_zero.1 (wtext_inj e)
 ·rintro rfl; exact e0.symm
def cmpR (x y:Rat):Int:=(x.num*y.den-y.num*x.den).sign
noncomputable def rat_Cmp.f (a0_0 a0_1 a1_0 a1_1:ByteArray):Option (Int×Int):=by
 classical exact if h:(∃ x,RR a0_0 a0_1 x)∧∃ y,RR a1_0 a1_1 y then some (cmpR h.1.choose h.2.choose,0) else some (0,3)
noncomputable def rat_Floor.f (a0_0 a0_1:ByteArray):Option (ByteArray×ByteArray×Int):=oneF (fun x=>0) (fun x=>((x.floor:Int):Rat)) a0_0 a0_1
end Go.Proofs.YtglaeambknhjlaaGreatDoor.Q
end
section
namespace Go.Proofs.YtglaeambknhjlaaGreatDoor.Q
open Go.RowKit Go.Proofs.YtglaeambknhjlaaGreatDoorW.PrintWords Go.Proofs.YtglaeambknhjlaaGreatDoor.P Go.Proofs.YtglaeambknhjlaaGreatDoorW.PrintLast Go.Proofs.YtglaeambknhjlaaGreatDoorW.PrintMore
noncomputable def cubitref02_Compare.f (a0_0:Bool) (a0_1:ByteArray) (a0_2:ByteArray) (a1_0:Bool) (a1_1:ByteArray) (a1_2:ByteArray):Option (Int):=(cubitref02_Minus.f a1_0 a1_1 a1_2).bind fun bt821=>((cubitref02_Plus.f a0_0 a0_1 a0_2 bt821.1 bt821.2.1 bt821.2.2).bind fun bt824=>(if bt824.2.1.toList=([48]:List UInt8) then (some 0) else (if bt824.1=true then (some (-1)) else (some 1))))
end Go.Proofs.YtglaeambknhjlaaGreatDoor.Q
end
section
namespace Go.Proofs.YtglaeambknhjlaaGreatDoor.Q
open Go.RowKit Go.Proofs.YtglaeambknhjlaaGreatDoorW.PrintWords Go.Proofs.YtglaeambknhjlaaGreatDoorW.PrintLast Go.Proofs.YtglaeambknhjlaaGreatDoorW.PrintMore
attribute [local go_sem] max2_int min2_int max_two min_two max_three min_three max_four min_four
noncomputable def cubitref02_Cmp.j0:Nat→Bool→ByteArray→ByteArray→ByteArray→ByteArray→Option (Int×Int)
 | 0,_,_,_,_,_=>none
 | k+1,x13,x801000,x801001,x802000,x802001=>if x13=true then (some (0,3)) else ((cubitref02_Read.f k x801000 x801001).bind fun bt804=>((cubitref02_Read.f k x802000 x802001).bind fun bt807=>((cubitref02_Compare.f bt804.1 bt804.2.1 bt804.2.2 bt807.1 bt807.2.1 bt807.2.2).bind fun t810=>(some (t810,0)))))
noncomputable def cubitref02_Cmp.f (k:Nat) (a0_0:ByteArray) (a0_1:ByteArray) (a1_0:ByteArray) (a1_1:ByteArray):Option (Int×Int):=(cubitref02_Right.f k a0_0 a0_1).bind fun t802=>(if t802=true then ((cubitref02_Right.f k a1_0 a1_1).bind fun t803=>(cubitref02_Cmp.j0 k (!t803) a0_0 a0_1 a1_0 a1_1)) else (cubitref02_Cmp.j0 k true a0_0 a0_1 a1_0 a1_1))
noncomputable def cubitref02_Down.j0:Nat→ByteArray→Bool→Bool→ByteArray→ByteArray→Option (Bool×ByteArray×ByteArray)
 | 0,_,_,_,_,_=>none
 | k+1,x3,x18,x817000,x817001,x817002=>if x18=true then ((cubitref01_Plus.f x3 (⟨#[49]⟩:ByteArray)).bind fun t820=>((cubitref02_Lowest.f x817000 t820 (⟨#[49]⟩:ByteArray)).bind fun bt821=>(some (bt821.1,bt821.2.1,bt821.2.2)))) else ((cubitref02_Lowest.f x817000 x3 (⟨#[49]⟩:ByteArray)).bind fun bt824=>(some (bt824.1,bt824.2.1,bt824.2.2)))
noncomputable def cubitref02_Down.f (k:Nat) (a0_0:Bool) (a0_1:ByteArray) (a0_2:ByteArray):Option (Bool×ByteArray×ByteArray):=(cubitref01_Divide.f a0_1 a0_2).bind fun bt818=>(if a0_0=true then (cubitref02_Down.j0 k bt818.1 (bt818.2.toList != ([48]:List UInt8)) a0_0 a0_1 a0_2) else (cubitref02_Down.j0 k bt818.1 false a0_0 a0_1 a0_2))
noncomputable def cubitref02_Floor.f (k:Nat) (a0_0:ByteArray) (a0_1:ByteArray):Option (ByteArray×ByteArray×Int):=(cubitref02_Right.f k a0_0 a0_1).bind fun t829=>(if t829=true then ((cubitref02_Read.f k a0_0 a0_1).bind fun bt830=>((cubitref02_Down.f k bt830.1 bt830.2.1 bt830.2.2).bind fun bt833=>((cubitref02_Told.f k bt833.1 bt833.2.1 bt833.2.2).bind fun bt836=>(some (bt836.1,bt836.2.1,bt836.2.2))))) else (some ((⟨#[]⟩:ByteArray),(⟨#[]⟩:ByteArray),3)))
noncomputable def rat_Sign.f (a0_0:ByteArray) (a0_1:ByteArray):Option (Int×Int):=(rat_Of.f 0).bind fun bt812=>((rat_Cmp.f a0_0 a0_1 bt812.1 bt812.2).bind fun bt814=>(some (bt814.1,bt814.2)))
noncomputable def cubitref01_low.f (a0:Bool) (a1:ByteArray) (a2:ByteArray):Option (Bool×ByteArray×ByteArray):=if a1.toList=([48]:List UInt8) then (some (false,(⟨#[48]⟩:ByteArray),(⟨#[49]⟩:ByteArray))) else ((cubitref01_Common.f a1 a2).bind fun t298=>((cubitref01_Divide.f a1 t298).bind fun bt299=>((cubitref01_Divide.f a2 t298).bind fun bt301=>(some (a0,bt299.1,bt301.1)))))
end Go.Proofs.YtglaeambknhjlaaGreatDoor.Q
end
section
namespace Go.Proofs.YtglaeambknhjlaaGreatDoor.Q
open Go.RowKit Go.Proofs.YtglaeambknhjlaaGreatDoorW.PrintWords Go.Proofs.YtglaeambknhjlaaGreatDoor.P Go.Proofs.YtglaeambknhjlaaGreatDoorW.PrintLast Go.Proofs.YtglaeambknhjlaaGreatDoorW.PrintMore
def FcAt (w:World) (b:Nat) (s:Bool) (x y:ByteArray):Prop:=w.heap[b]? = some (.cells #[.bool s,.string x,.string y] 28 (0,0))
theorem FcAt.c0 {w:World} {b:Nat} {s:Bool} {x y:ByteArray} (h:FcAt w b s x y):w.cell? ⟨b,0,none⟩=some (.bool s):=(blk_cell h 0).trans rfl
theorem FcAt.c1 {w:World} {b:Nat} {s:Bool} {x y:ByteArray} (h:FcAt w b s x y):w.cell? ⟨b,1,none⟩=some (.string x):=(blk_cell h 1).trans rfl
theorem FcAt.c2 {w:World} {b:Nat} {s:Bool} {x y:ByteArray} (h:FcAt w b s x y):w.cell? ⟨b,2,none⟩=some (.string y):=(blk_cell h 2).trans rfl
theorem FcAt.below {w w':World} {b:Nat} {s:Bool} {x y:ByteArray} (h:FcAt w b s x y) (hb:Below w.heap.size w w'):FcAt w' b s x y:=(hb.block _ (blk_lt h)).trans h
theorem FcAt.keep {w w':World} {b n:Nat} {s:Bool} {x y:ByteArray} (h:FcAt w b s x y) (hb:Below n w w') (hn:b<n):FcAt w' b s x y:=(hb.block _ hn).trans h
theorem FcAt.new (w:World) (s:Bool) (x y:ByteArray):FcAt (w.alloc (.cells #[.bool s,.string x,.string y] 28)) w.heap.size s x y:=blk_new w _
theorem FcAt.alloc {w:World} {b:Nat} {s:Bool} {x y:ByteArray} (h:FcAt w b s x y) (o:Obj):FcAt (w.alloc o) b s x y:=h.below (below_alloc (Below.refl _ _) _)
noncomputable def cubitref01_FAdd.f (a0_0:Bool) (a0_1:ByteArray) (a0_2:ByteArray) (a1_0:Bool) (a1_1:ByteArray) (a1_2:ByteArray):Option (Bool×ByteArray×ByteArray):=(cubitref01_Times.f a0_1 a1_2).bind fun t601=>((cubitref01_Times.f a1_1 a0_2).bind fun t602=>((cubitref01_Times.f a0_2 a1_2).bind fun t603=>(if (a0_0 == a1_0)=true then ((cubitref01_Plus.f t601 t602).bind fun t604=>((cubitref01_low.f a0_0 t604 t603).bind fun bt605=>(some (bt605.1,bt605.2.1,bt605.2.2)))) else ((cubitref01_Compare.f t601 t602).bind fun t608=>(if t608≥0 then ((cubitref01_Minus.f t601 t602).bind fun t609=>((cubitref01_low.f a0_0 t609 t603).bind fun bt610=>(some (bt610.1,bt610.2.1,bt610.2.2)))) else ((cubitref01_Minus.f t602 t601).bind fun t613=>((cubitref01_low.f a1_0 t613 t603).bind fun bt614=>(some (bt614.1,bt614.2.1,bt614.2.2)))))))))
end Go.Proofs.YtglaeambknhjlaaGreatDoor.Q
end
section
namespace Go.Proofs.YtglaeambknhjlaaGreatDoor.Q
open Go.RowKit Go.Proofs.YtglaeambknhjlaaGreatDoorW.PrintWords Go.Proofs.YtglaeambknhjlaaGreatDoorW.PrintLast Go.Proofs.YtglaeambknhjlaaGreatDoorW.PrintMore
attribute [local go_sem] max2_int min2_int max_two min_two max_three min_three max_four min_four
noncomputable def cubitref01_FNeg.f (a0_0:Bool) (a0_1:ByteArray) (a0_2:ByteArray):Option (Bool×ByteArray×ByteArray):=if a0_0=true then (some (false,a0_1,a0_2)) else (some ((a0_1.toList != ([48]:List UInt8)),a0_1,a0_2))
noncomputable def cubitref01_FSub.f (a0_0:Bool) (a0_1:ByteArray) (a0_2:ByteArray) (a1_0:Bool) (a1_1:ByteArray) (a1_2:ByteArray):Option (Bool×ByteArray×ByteArray):=(cubitref01_FNeg.f a1_0 a1_1 a1_2).bind fun bt327=>((cubitref01_FAdd.f a0_0 a0_1 a0_2 bt327.1 bt327.2.1 bt327.2.2).bind fun bt330=>(some (bt330.1,bt330.2.1,bt330.2.2)))
noncomputable def cubitref01_FCmp.f (a0_0:Bool) (a0_1:ByteArray) (a0_2:ByteArray) (a1_0:Bool) (a1_1:ByteArray) (a1_2:ByteArray):Option (Int):=(cubitref01_FSub.f a0_0 a0_1 a0_2 a1_0 a1_1 a1_2).bind fun bt335=>(if bt335.2.1.toList=([48]:List UInt8) then (some 0) else (if bt335.1=true then (some (-1)) else (some 1)))
noncomputable def cubitref01_FMul.f (a0_0:Bool) (a0_1:ByteArray) (a0_2:ByteArray) (a1_0:Bool) (a1_1:ByteArray) (a1_2:ByteArray):Option (Bool×ByteArray×ByteArray):=(cubitref01_Times.f a0_1 a1_1).bind fun t357=>((cubitref01_Times.f a0_2 a1_2).bind fun t358=>((cubitref01_low.f (a0_0 != a1_0) t357 t358).bind fun bt359=>(some (bt359.1,bt359.2.1,bt359.2.2))))
noncomputable def cubitref01_FMul.B1:List Nat:=[0,1,0,4,15,0,32,0,128,480,0,1024,0,4096,16352,32767,65535]
noncomputable def cubitref01_FInv.f (a0_0:Bool) (a0_1:ByteArray) (a0_2:ByteArray):Option (Bool×ByteArray×ByteArray):=some (a0_0,a0_2,a0_1)
noncomputable def cubitref01_FQuo.f (a0_0:Bool) (a0_1:ByteArray) (a0_2:ByteArray) (a1_0:Bool) (a1_1:ByteArray) (a1_2:ByteArray):Option (Bool×ByteArray×ByteArray):=(cubitref01_FInv.f a1_0 a1_1 a1_2).bind fun bt367=>((cubitref01_FMul.f a0_0 a0_1 a0_2 bt367.1 bt367.2.1 bt367.2.2).bind fun bt370=>(some (bt370.1,bt370.2.1,bt370.2.2)))
noncomputable def cubitref01_FSize.f (a0_0:Bool) (a0_1:ByteArray) (a0_2:ByteArray):Option (Bool×ByteArray×ByteArray):=some (false,a0_1,a0_2)
noncomputable def cubitref01_FZero.f (a0_0:Bool) (a0_1:ByteArray) (a0_2:ByteArray):Option (Bool):=some (a0_1.toList == ([48]:List UInt8))
end Go.Proofs.YtglaeambknhjlaaGreatDoor.Q
end
section
namespace Go.Proofs.YtglaeambknhjlaaGreatDoor.P
open Go.RowKit Go.Proofs.YtglaeambknhjlaaGreatDoorW.PrintWords
theorem ften_calls (n:Int) (w:World) (h0 : -100000≤n) (h1:n≤100000) :
  Calls Tryz.prog 169 #[.int .i64 n] w fun e w'=>∃ g,e = .returned (.pointer (some ⟨g,0,none⟩))∧w.heap.size≤g∧RatAt w' g (tenR n)∧Below w.heap.size w w':=by
 have hnew:=IntAt.new w 105 (by decide)
 have hba:=below_alloc (Below.refl w.heap.size w) (.cells #[.bool false,.slice none 0 0] 105)
 have hu105:=Tryz.underlying105
 have hu112:=Tryz.underlying112
 have HBT:=Lib.hid (bd_ten n.natAbs)
 by_cases hn:n<0
 ·have HT:=Lib.hid (show tenR n=(((10:Int)^n.natAbs:Int):Rat)⁻¹ by unfold tenR; rw [if_pos hn])
  go_enter Tryz.func169,Tryz.ntmps169
  go_wp2_with fail
  refine (newInt_new 10 _ (by decide) (by decide)).mono ?_
  rintro e w1 ⟨N1,rfl,hN1,hx1,hb1⟩
  have hz1:=hnew.slot.below hb1
  have hB1:=bthen hba hb1
  have hl1:=hx1.lt
  go_wp2_with fail
  rw [show max n (-n)=((n.natAbs:Nat):Int) by omega]
  refine (newInt_new (n.natAbs:Int) _ (by omega) (by omega)).mono ?_
  rintro e w2 ⟨N2,rfl,hN2,hx2,hb2⟩
  have hx12:=hx1.below hb2
  have hz2:=hz1.below hb2
  have hB2:=bthen hB1 hb2
  clear hnew hba hb1 hb2 hx1 hz1 hB1
  go_wp2_with fail
  refine (exp_calls w.heap.size 0 N1 0 N2 0 _ 10 n.natAbs _ hz2 hx12 hx2 (show Bd 4 (10:Int) by unfold Bd; decide) (by decide) (by unfold big; omega)).mono ?_
  rintro e w3 ⟨rfl,hp3,hu3⟩
  have hB3:=hu3.new hB2 (Nat.le_refl _)
  have hs3:=hB3.size
  have hnewR:=RatAt.new w3 112 (by decide)
  have hbaR:=below_alloc (Below.refl w3.heap.size w3) (.cells #[.bool false,.slice none 0 0,.bool false,.slice none 0 0] 112)
  clear hx12 hx2 hz2 hu3
  go_wp2_with fail
  refine (rsetInt_calls w3.heap.size w.heap.size 0 _ _ hnewR.slot (hp3.below hbaR) HBT.out (by unfold big; omega)).mono ?_
  rintro e w4 ⟨rfl,hz4,hu4⟩
  have hB4:=hu4.new (bthen hB3 hbaR) hs3
  clear hp3 hnewR hbaR hu4
  go_wp2_with fail
  refine (inv_calls w3.heap.size w3.heap.size _ _ hz4.slot hz4 (ten_ne _) (Bdr.int HBT.out (by omega)) (by unfold big; omega)).mono ?_
  rintro e w5 ⟨rfl,hz5,hu5⟩
  go_wp2
  go_ret
  exact ⟨_,rfl,hs3,by rw [HT.out]; exact hz5,hu5.new hB4 hs3⟩
 ·have HT:=Lib.hid (show tenR n=(((10:Int)^n.natAbs:Int):Rat) by unfold tenR; rw [if_neg hn])
  go_enter Tryz.func169,Tryz.ntmps169
  go_wp2_with fail
  refine (newInt_new 10 _ (by decide) (by decide)).mono ?_
  rintro e w1 ⟨N1,rfl,hN1,hx1,hb1⟩
  have hz1:=hnew.slot.below hb1
  have hB1:=bthen hba hb1
  have hl1:=hx1.lt
  go_wp2_with fail
  rw [show max n (-n)=((n.natAbs:Nat):Int) by omega]
  refine (newInt_new (n.natAbs:Int) _ (by omega) (by omega)).mono ?_
  rintro e w2 ⟨N2,rfl,hN2,hx2,hb2⟩
  have hx12:=hx1.below hb2
  have hz2:=hz1.below hb2
  have hB2:=bthen hB1 hb2
  clear hnew hba hb1 hb2 hx1 hz1 hB1
  go_wp2_with fail
  refine (exp_calls w.heap.size 0 N1 0 N2 0 _ 10 n.natAbs _ hz2 hx12 hx2 (show Bd 4 (10:Int) by unfold Bd; decide) (by decide) (by unfold big; omega)).mono ?_
  rintro e w3 ⟨rfl,hp3,hu3⟩
  have hB3:=hu3.new hB2 (Nat.le_refl _)
  have hs3:=hB3.size
  have hnewR:=RatAt.new w3 112 (by decide)
  have hbaR:=below_alloc (Below.refl w3.heap.size w3) (.cells #[.bool false,.slice none 0 0,.bool false,.slice none 0 0] 112)
  clear hx12 hx2 hz2 hu3
  go_wp2_with fail
  refine (rsetInt_calls w3.heap.size w.heap.size 0 _ _ hnewR.slot (hp3.below hbaR) HBT.out (by unfold big; omega)).mono ?_
  rintro e w4 ⟨rfl,hz4,hu4⟩
  have hB4:=hu4.new (bthen hB3 hbaR) hs3
  clear hp3 hnewR hbaR hu4
  go_wp2
  go_ret
  exact ⟨_,rfl,hs3,by rw [HT.out]; exact hz4,hB4⟩
theorem ffloor_calls (g:Nat) (x:Rat) (w:World) (hx:RatAt w g x) {n:Nat} (hs:Bdr n x) (hn:n≤big) :
  Calls Tryz.prog 220 #[.pointer (some ⟨g,0,none⟩)] w fun e w'=>∃ D,e = .returned (.pointer (some ⟨D,0,none⟩))∧w.heap.size≤D∧IntAt w' D 0 x.floor∧Below w.heap.size w w':=by
 have hu105:=Tryz.underlying105
 rw [Rat.floor_def]
 have hdn:=den_ne x
 go_enter Tryz.func220,Tryz.ntmps220
 have hnew:=IntAt.new w 105 (by decide)
 have hba:=below_alloc (Below.refl w.heap.size w) (.cells #[.bool false,.slice none 0 0] 105)
 have hd1:Bd n (x.den:Int):=hs.2
 have hn1:Bd n x.num:=hs.1
 go_wp2_with fail
 refine (num_new g x _ (hx.below hba) hs hn).mono ?_
 rintro e w1 ⟨N1,rfl,hN1,hx1,hb1⟩
 have hl1:=hx1.lt
 have hxx1:=(hx.below hba).below hb1
 go_wp2_with fail
 refine (denom_new g x _ hxx1 hs hn).mono ?_
 rintro e w2 ⟨N2,rfl,hN2,hx2,hb2⟩
 have hl2:=hx2.lt
 have hs1:=hb1.size
 have hs2:=hb2.size
 simp only [World.size_alloc] at hN1 hs1
 have hz2:=(hnew.slot.below hb1).below hb2
 have hx12:=hx1.below hb2
 have hB2:=bthen (bthen hba hb1) hb2
 have hnewM:=IntAt.new w2 105 (by decide)
 have hbaM:=below_alloc (Below.refl w2.heap.size w2) (.cells #[.bool false,.slice none 0 0] 105)
 clear hnew hba hx hxx1 hb1 hb2 hx1
 go_wp2_with fail
 refine (divMod_calls w.heap.size 0 N1 0 N2 0 w2.heap.size 0 x.num x.den _ (hz2.below hbaM) hnewM.slot (by omega) (hx12.below hbaM) (hx2.below hbaM) hdn hn1 hd1 hn).mono ?_
 rintro e w3 ⟨rfl,hq3,hm3,w31,hu1,hu2⟩
 have hB3:=hu2.new (hu1.new (bthen hB2 hbaM) (Nat.le_refl _)) (by omega)
 go_wp2
 go_ret
 exact ⟨_,rfl,Nat.le_refl _,hq3,hB3⟩
theorem feven_calls (g:Nat) (x:Rat) (w:World) (hx:RatAt w g x) {n:Nat} (hs:Bdr n x) (hn0:0<n) (hn:4*n+10≤big) :
  Calls Tryz.prog 168 #[.pointer (some ⟨g,0,none⟩)] w fun e w'=>∃ D,e = .returned (.pointer (some ⟨D,0,none⟩))∧w.heap.size≤D∧IntAt w' D 0 (evenR x)∧Below w.heap.size w w':=by
 have hu112:=Tryz.underlying112
 have hnb:n≤big:=by omega
 have hbf:=bd_floor hs
 have hlx:=hx.lt
 have HE:=Lib.hid (show evenR x=if 0<halfS x∨(halfS x=0∧x.floor.natAbs%2=1) then x.floor+1 else x.floor from rfl)
 have HH:=Lib.hid (show halfS x=((x-(x.floor:Rat)).num*(Rat.divInt 1 2).den-(Rat.divInt 1 2).num*(x-(x.floor:Rat)).den).sign from rfl)
 go_enter Tryz.func168,Tryz.ntmps168
 go_wp2_with fail
 refine (ffloor_calls g x _ hx hs hnb).mono ?_
 rintro e w1 ⟨D,rfl,hD,hq1,hb1⟩
 have hx1:=hx.below hb1
 have hlq:=hq1.lt
 have hs1:=hb1.size
 have hbA:=bthen (below_alloc (Below.refl w1.heap.size w1) (.cells #[.bool false,.slice none 0 0,.bool false,.slice none 0 0] 112)) (below_alloc (Below.refl _ _) (.cells #[.bool false,.slice none 0 0,.bool false,.slice none 0 0] 112))
 have hr2:RatAt ((w1.alloc (.cells #[.bool false,.slice none 0 0,.bool false,.slice none 0 0] 112)).alloc (.cells #[.bool false,.slice none 0 0,.bool false,.slice none 0 0] 112)) (w1.heap.size+1) 0:=by
  have h:=RatAt.new (w1.alloc (.cells #[.bool false,.slice none 0 0,.bool false,.slice none 0 0] 112)) 112 (by decide)
  rwa [World.size_alloc] at h
 have hr1:=(RatAt.new w1 112 (by decide)).slot.below (below_alloc (Below.refl (w1.alloc (.cells #[.bool false,.slice none 0 0,.bool false,.slice none 0 0] 112)).heap.size (w1.alloc (.cells #[.bool false,.slice none 0 0,.bool false,.slice none 0 0] 112))) (.cells #[.bool false,.slice none 0 0,.bool false,.slice none 0 0] 112))
 have hqA:=hq1.below hbA
 have hxA:=hx1.below hbA
 have hBA:=bthen hb1 hbA
 clear hq1 hx1 hb1 hbA hx
 go_wp2_with fail
 refine (rsetInt_calls (w1.heap.size+1) D 0 x.floor _ hr2.slot hqA hbf hnb).mono ?_
 rintro e w2 ⟨rfl,hf2,hu2⟩
 have hq2:=hqA.upd hu2 (Or.inl (by omega))
 have hx2:=hxA.upd hu2 (by omega)
 have hr2':=hr1.upd hu2
 have hB2:=hu2.new hBA (by omega)
 clear hqA hxA hr1 hr2 hu2 hBA
 have hsub:=hs.sub (Bdr.int hbf hn0)
 have HSUB:=Lib.hid hsub
 clear hsub
 go_wp2_with fail
 refine (rsub_calls w1.heap.size g (w1.heap.size+1) x (x.floor:Rat) _ hr2' hx2 hf2 hs (Bdr.int hbf hn0) (by omega)).mono ?_
 rintro e w3 ⟨rfl,hd3,hu3⟩
 have hq3:=hq2.upd hu3 (Or.inl (by omega))
 have hB3:=hu3.new hB2 hs1
 clear hq2 hx2 hf2 hr2' hu3 hB2
 go_wp2_with fail
 refine (newRat_calls 1 2 _ (by decide) (by decide) (by decide) (by decide) (by decide)).mono ?_
 rintro e w4 ⟨N,rfl,hN,hh4,hb4⟩
 have hd4:=hd3.below hb4
 have hq4:=hq3.below hb4
 have hB4:=bthen hB3 hb4
 clear hd3 hq3 hB3 hb4
 go_wp2_with fail
 refine (rcmp_calls w1.heap.size N _ _ _ hd4 hh4 HSUB.out Bdr.half (by omega)).mono ?_
 rintro e w5 ⟨rfl,hb5⟩
 have hq5:=hq4.below hb5
 have hB5:=bthen hB4 hb5
 rw [←HH.out]
 clear hd4 hh4 hq4 hB4 hb5 HH
 by_cases h1:0<halfS x
 ·have HV:=Lib.hid (show evenR x=x.floor+1 by rw [HE.out,if_pos (Or.inl h1)])
  clear HE
  go_wp2_with fail
  refine (newInt_new 1 _ (by decide) (by decide)).mono ?_
  rintro e w7 ⟨N7,rfl,hN7,hn7,hb7⟩
  have hq7:=hq5.below hb7
  go_wp2_with fail
  refine (add_one_calls D N7 x.floor _ hq7 hn7 hbf hn0 hnb).mono ?_
  rintro e w8 ⟨rfl,hq8,hu8⟩
  have hB8:=hu8.new (bthen hB5 hb7) hD
  go_wp2
  go_ret
  exact ⟨_,rfl,hD,by rw [HV.out]; exact hq8,hB8⟩
 ·by_cases h2:halfS x=0
  ·rw [h2]
   by_cases h3:x.floor.natAbs%2=1
   ·have HV:=Lib.hid (show evenR x=x.floor+1 by rw [HE.out,if_pos (Or.inr ⟨h2,h3⟩)])
    clear HE h1 h2
    go_wp2_with fail
    refine (bit_calls D 0 x.floor 0 _ hq5 (by omega) hbf hnb).mono ?_
    rintro e w6 ⟨rfl,⟨nd,hw6⟩⟩
    have hb6:Below w5.heap.size w5 w6:=by subst hw6; exact below_drewN' _ _
    have hq6:=hq5.below hb6
    have hB6:=bthen hB5 hb6
    rw [show x.floor.natAbs/2^0%2=1 by rw [Nat.pow_zero,Nat.div_one]; exact h3]
    clear hw6 h3
    go_wp2_with fail
    refine (newInt_new 1 _ (by decide) (by decide)).mono ?_
    rintro e w7 ⟨N7,rfl,hN7,hn7,hb7⟩
    have hq7:=hq6.below hb7
    go_wp2_with fail
    refine (add_one_calls D N7 x.floor _ hq7 hn7 hbf hn0 hnb).mono ?_
    rintro e w8 ⟨rfl,hq8,hu8⟩
    have hB8:=hu8.new (bthen hB6 hb7) hD
    go_wp2
    go_ret
    exact ⟨_,rfl,hD,by rw [HV.out]; exact hq8,hB8⟩
   ·have HV:=Lib.hid (show evenR x=x.floor by rw [HE.out,if_neg (fun h=>h.elim h1 (fun h=>h3 h.2))])
    clear HE h1 h2
    go_wp2_with fail
    refine (bit_calls D 0 x.floor 0 _ hq5 (by omega) hbf hnb).mono ?_
    rintro e w6 ⟨rfl,⟨nd,hw6⟩⟩
    have hb6:Below w5.heap.size w5 w6:=by subst hw6; exact below_drewN' _ _
    have hq6:=hq5.below hb6
    have hB6:=bthen hB5 hb6
    rw [show x.floor.natAbs/2^0%2=0 by rw [Nat.pow_zero,Nat.div_one]; omega]
    clear hw6 h3
    go_wp2
    go_ret
    exact ⟨_,rfl,hD,by rw [HV.out]; exact hq6,hB6⟩
  ·have hne:(halfS x == 0)=false:=beq_eq_false_iff_ne.2 h2
   have HV:=Lib.hid (show evenR x=x.floor by rw [HE.out,if_neg (fun h=>h.elim h1 (fun h=>h2 h.1))])
   clear HE h2
   go_wp2
   go_ret
   exact ⟨_,rfl,hD,by rw [HV.out]; exact hq5,hB5⟩
theorem setNeg_calls (b o:Nat) (S s:ByteArray) (u:Value) (w:World) (hz:Slot w b o) (hS:S=(⟨#[45]⟩:ByteArray)++s) (hd:Dig s.data.toList) (h0:0<s.size) (h1:s.size≤1048576) :
  Calls Tryz.prog 166 #[.pointer (some ⟨b,o,none⟩),.string S,u] w fun e w'=>e = .returned (.tuple #[.pointer (some ⟨b,o,none⟩),.bool true])∧IntAt w' b o (-(dval s.data.toList:Int))∧Upd w w' b o (o+2):=by
 have hS1:S.size=s.size+1:=by rw [hS,ByteArray.size_append]; show 1+s.size=_; omega
 have hSl:S.data.toList=45 :: s.data.toList:=by rw [hS,ByteArray.data_append,Array.toList_append]; rfl
 have hSp:0<S.size:=by omega
 have hb45:(((S[0]'hSp).toNat:Int) == 45)=true:=by
  have e:S[0]'hSp=45:=by
   have:S.data.toList[0]'(by rw [hSl]; simp)=45:=by simp [hSl]
   exact this
  rw [e]; rfl
 have hex:(S.extract 1 S.size).data.toList=s.data.toList:=by rw [ex_data,hSl]; simp; rw [List.take_of_length_le (by rw [data_length]; omega)]
 have hes:(S.extract 1 S.size).size=s.size:=by rw [←data_length,hex,data_length]
 have hse:(S.extract 1 S.size).toList.isEmpty=false:=by
  cases hs:(S.extract 1 S.size).toList with
  | nil=>have:=congrArg List.length hs; rw [ba_toList_length,hes] at this; have h9:s.size=0:=this; omega
  | cons x xs=>rfl
 have hlt:(0:Int)<(S.size:Int):=by omega
 have hle1:(1:Int)≤(S.size:Int):=by omega
 have HEX:=Lib.hid hex
 clear hS hS1 hSl hes hex
 go_enter Tryz.func166,Tryz.ntmps166
 go_wp2
 go_loopw [1,9] (fun vs vw wr=>∃ (k:Nat) (s':ByteArray) (zs:List Int),vs = .string s'∧Hid (SSt w wr s s' k vw zs)) (fun vs _ _=>match vs with|.string s'=>s'.size|_=>0)
 case atStart=>exact ⟨0,S.extract 1 S.size,[],rfl,Lib.hid ⟨by omega,HEX.out,⟨rfl,Or.inl ⟨rfl,rfl⟩⟩,Wd.nil,by simp,rfl,Below.refl _ _⟩⟩
 case round =>
  obtain ⟨k,s',zs,rfl,HS⟩:=hrel
  rename_i vw
  by_cases hk:0<s'.size
  ·have hsz:s'.size≤1048576:=by have:=HS.out.size; omega
   have q1:IntKind.i64.wrap ((s'.size:Int)-1)=(s'.size:Int)-1:=IntWalk.i64_in _ (by omega)
   obtain ⟨n,hn⟩:∃ n:Nat,n=(s'.size-1)%9+1:=⟨_,rfl⟩
   have q2:Int.tmod ((s'.size:Int)-1) 9=(n:Int)-1:=by rw [Int.tmod_eq_emod_of_nonneg (by omega)]; omega
   have hn1:1≤n:=by omega
   have hn9:n≤9:=by omega
   have hns:n≤s'.size:=by omega
   have hnsI:(n:Int)≤(s'.size:Int):=by omega
   clear hn
   obtain ⟨Aw,cw,rfl,hww⟩:=HS.out.own.wat
   have hP:(s'.extract 0 n).size=n:=by rw [ByteArray.size_extract]; omega
   have kb:=fun W=>print_bytes (P:=Tryz.prog) 9 95 5 Tryz.underlying9 Tryz.underlying95 Tryz.underlying5 (s'.extract 0 n) W
   rw [hP] at kb
   have hpd:Dig (s'.extract 0 n).data.toList:=by rw [ex_data,HS.out.rest]; exact ((hd.drop _).drop _).take _
   have HP:=Lib.hid hP
   clear hP
   have hrd:=bytes_reads wr 5 (s'.extract 0 n) (by have:=HP.out; omega)
   rw [HP.out] at hrd
   have HRD:=Lib.hid hrd
   have HBB:=Lib.hid (bytes_below (Below.refl wr.heap.size wr) (Nat.le_refl _) 5 (s'.extract 0 n))
   clear hrd
   have hSp:Hid (∀ j,j<n→∃ d:Nat,d≤9∧rd (bytesOf (s'.extract 0 n)) (j:Int)=(d:Int)+48∧dval ((s'.extract 0 n).data.toList.take (j+1))=dval ((s'.extract 0 n).data.toList.take j)*10+d):=Lib.hid (fun j hj=>dig_step _ hpd j (by rw [HP.out]; exact hj))
   go_wp2
   generalize hwb:Lib.bytesWorld wr 5 (s'.extract 0 n)=wb at HRD HBB ⊢
   obtain ⟨wo,rfl⟩:∃ wo:World,wo=wr:=⟨_,rfl⟩
   clear hwb kb
   go_loopw [11,12,51] (fun vp vt vi w2=>∃ (j pt tm:Nat),j≤n∧vp = .int .u32 pt∧vt = .int .u32 tm∧vi = .int .i64 j∧Hid (pt=dval ((s'.extract 0 n).data.toList.take j))∧Hid (tm=10^j)∧pt<tm∧tm≤1000000000∧Below wb.heap.size wb w2) (fun _ _ vi _=>n-(intOf vi).toNat)
   case atStart=>exact ⟨0,0,1,by omega,by go_num,by go_num,by go_num,Lib.hid (by simp [dval]),Lib.hid rfl,by omega,by omega,Below.refl _ _⟩
   case round =>
    obtain ⟨j,pt,tm,hj,rfl,rfl,rfl,HPT,HTM,hpt,htm,hB2⟩:=hrel
    by_cases hjn:j<n
    ·obtain ⟨d,hd9,hrdd,hdv⟩:=hSp.out j hjn
     obtain ⟨ad,he,hc⟩:=(HRD.out.below hB2).at_ (j:Int) (by omega) (by omega)
     injection he with he
     subst he
     rw [hrdd,Int.toNat_natCast] at hc
     have HDV:=Lib.hid hdv
     have htm2:tm*10≤1000000000:=by
      rw [HTM.out]
      have:10^j≤10^8:=Nat.pow_le_pow_right (by decide) (by omega)
      omega
     have hc2:=hc
     rw [add_plain] at hc2
     clear hrdd hdv
     have hjI:(j:Int)<(n:Int):=by omega
     go_wp2
     go_roundw
     case rel=>exact ⟨j+1,pt*10+d,tm*10,by omega,by go_num,by go_num,by go_num,Lib.hid (by rw [HDV.out,←HPT.out]),Lib.hid (by rw [Nat.pow_succ,←HTM.out]),by omega,htm2,hB2⟩
     case measure=>simp [intOf]; omega
    ·have hjn':j=n:=by omega
     subst hjn'
     have hjI:¬ (j:Int)<(j:Int):=by omega
     have hBo:Below wo.heap.size wo wr:=bthen HBB.out hB2
     have hst:=HS.out.step h1 j pt tm hns hn1 HPT.out HTM.out hpt htm
     have HST:=Lib.hid hst
     clear hst
     have hsw:s'.size≤9223372036854775807:=by omega
     go_wp2_with fail
     go_region_held3 (fun _=>True) (exact trivial)
      ((first
       | (go_simp; go_at_call 219; with_reducible refine (HST.out _ (bthen hBo (below_drew' _))).mono ?_; rintro e w5 ⟨v',rs,rfl,HS2⟩)))
     go_wp2
     go_roundw
     case rel=>exact ⟨k+j,s'.extract j s'.size,rs,by go_num,HS2⟩
     case measure=>have e1:=HS2.out.size; have e2:=HS.out.size; simp; omega
  ·obtain ⟨Aw,cw,rfl,hww⟩:=HS.out.own.wat
   have hfin:sg true (val zs) = -((dval s.data.toList:Nat):Int):=by
    have e1:=HS.out.size
    have e2:=HS.out.eq
    rw [List.take_of_length_le (by rw [data_length]; omega)] at e2
    show -(val zs)=_
    rw [e2]
   have HF:=Lib.hid hfin
   clear hfin
   go_wp2_with fail
   refine (put_calls b o true Aw cw zs _ (hz.upd (Upd.of_below HS.out.below 0 0 0)) hww HS.out.wd).mono ?_
   rintro e w5 ⟨rfl,hx5,hu5⟩
   rw [HF.out] at hx5
   go_wp2
   go_ret2
   exact ⟨rfl,hx5,(Upd.of_below HS.out.below _ _ _).trans hu5⟩
end Go.Proofs.YtglaeambknhjlaaGreatDoor.P
end
section
namespace Go.Proofs.YtglaeambknhjlaaGreatDoor.Q
open Go.RowKit Go.Proofs.YtglaeambknhjlaaGreatDoorW.PrintWords Go.Proofs.YtglaeambknhjlaaGreatDoor.P Go.Proofs.YtglaeambknhjlaaGreatDoorW.PrintLast Go.Proofs.YtglaeambknhjlaaGreatDoorW.PrintMore
def RbAt (w:World) (b:Nat) (x y:ByteArray):Prop:=w.heap[b]? = some (.cells #[.string x,.string y] 23 (0,0))
theorem RbAt.c0 {w:World} {b:Nat} {x y:ByteArray} (h:RbAt w b x y):w.cell? ⟨b,0,none⟩=some (.string x):=(blk_cell h 0).trans rfl
theorem RbAt.c1 {w:World} {b:Nat} {x y:ByteArray} (h:RbAt w b x y):w.cell? ⟨b,1,none⟩=some (.string y):=(blk_cell h 1).trans rfl
theorem RbAt.below {w w':World} {b:Nat} {x y:ByteArray} (h:RbAt w b x y) (hb:Below w.heap.size w w'):RbAt w' b x y:=(hb.block _ (blk_lt h)).trans h
theorem RbAt.keep {w w':World} {b n:Nat} {x y:ByteArray} (h:RbAt w b x y) (hb:Below n w w') (hn:b<n):RbAt w' b x y:=(hb.block _ hn).trans h
theorem RbAt.new (w:World) (x y:ByteArray):RbAt (w.alloc (.cells #[.string x,.string y] 23)) w.heap.size x y:=blk_new w _
theorem RbAt.alloc {w:World} {b:Nat} {x y:ByteArray} (h:RbAt w b x y) (o:Obj):RbAt (w.alloc o) b x y:=h.below (below_alloc (Below.refl _ _) _)
def Ans (f:FuncId) (args:Array Value) (v:Value):Prop:=∀ W:World,Calls Tryz.prog f args W fun e w'=>e = .returned v∧Below W.heap.size W w'
end Go.Proofs.YtglaeambknhjlaaGreatDoor.Q
end
section
namespace Go.Proofs.YtglaeambknhjlaaGreatDoor.Q
open Go.RowKit Go.Proofs.YtglaeambknhjlaaGreatDoorW.PrintWords Go.Proofs.YtglaeambknhjlaaGreatDoor.P
theorem setW_calls (b o:Nat) (z:Int) (u:Value) (w:World) (hz:Slot w b o) (h:z.natAbs<10^600) :
  Calls Tryz.prog 166 #[.pointer (some ⟨b,o,none⟩),.string (wtext z),u] w fun e w'=>e = .returned (.tuple #[.pointer (some ⟨b,o,none⟩),.bool true])∧IntAt w' b o z∧Upd w w' b o (o+2):=by
 have hs:=(T_size_le (k:=600) (by decide)).2 h
 have hp:=T_size_pos z.natAbs
 by_cases hn:z<0
 ·refine (setNeg_calls b o (wtext z) (T z.natAbs) u w hz (wtext_neg hn) (T_can _).2.1 hp (by omega)).mono ?_
  rintro e w' ⟨h1,h2,h3⟩
  rw [T_dval,show -((z.natAbs:Nat):Int)=z by omega] at h2
  exact ⟨h1,h2,h3⟩
 ·have e:wtext z=T z.natAbs:=wtext_pos (by omega)
  rw [e]
  refine (setString_calls b o (T z.natAbs) u w hz (T_can _).2.1 hp (by omega)).mono ?_
  rintro e w' ⟨h1,h2,h3⟩
  rw [T_dval,show ((z.natAbs:Nat):Int)=z by omega] at h2
  exact ⟨h1,h2,h3⟩
theorem rat_right_ans {a b:ByteArray} {x:Rat} (h:RR a b x):Ans 35 #[.agg #[.string a,.string b]] (.bool true):=fun W=>right_walk a b true W ⟨fun _=>⟨x,h⟩,fun _=>rfl⟩
theorem fread_yes {a b:ByteArray} {x:Rat} (h:RR a b x) (w:World) :
  Calls Tryz.prog 89 #[.agg #[.string a,.string b]] w fun e w'=>∃ g,e = .returned (.pointer (some ⟨g,0,none⟩))∧w.heap.size≤g∧RatAt w' g x∧Below w.heap.size w w':=by
 have HA:=Lib.hid (rat_right_ans h)
 have HN:=Lib.hid (fun W b o (hz:Slot W b o)=>setW_calls b o x.num (.int .i64 10) W hz h.ln)
 have HD:=Lib.hid (fun W b o (hz:Slot W b o)=>setW_calls b o (x.den:Int) (.int .i64 10) W hz (show ((x.den:Nat):Int).natAbs<10^600 by rw [Int.natAbs_natCast]; exact h.ld))
 have hdn:wtext (x.den:Int)=b:=by rw [wtext_pos (by omega),Int.natAbs_natCast,h.den]
 have hnn:wtext x.num=a:=h.num.symm
 have HBX:=Lib.hid h.bd
 rw [hnn] at HN
 rw [hdn] at HD
 have hds:(x.den:Int).sign=1:=Int.sign_eq_one_of_pos (by have:=x.den_pos; omega)
 have hd0:(x.den:Int)≠0:=by have:=x.den_pos; omega
 have HD0:=Lib.hid hd0
 have HDS:=Lib.hid hds
 clear hds hd0 hdn hnn h
 go_enter Tryz.func89,Tryz.ntmps89
 have fa:=RbAt.new w a b
 have hba:=below_alloc (Below.refl w.heap.size w) (.cells #[.string a,.string b] 23)
 go_wp2_with fail
 generalize w.alloc (.cells #[.string a,.string b] 23)=W0 at *
 have HFA:=Lib.hid fa
 have HBA:=Lib.hid hba
 clear fa hba
 refine (HA.out _).mono ?_
 rintro e w1 ⟨rfl,hb⟩
 have fa1:=HFA.out.below hb
 have f1:=(HFA.out.below hb).alloc (.cells #[.bool false,.slice none 0 0] 105)
 have c0:=f1.c0
 have hz1:=(IntAt.new w1 105 (by decide)).slot
 have hB1:=bthen (bthen HBA.out hb) (below_alloc (Below.refl _ _) (.cells #[.bool false,.slice none 0 0] 105))
 have hs1:=(bthen HBA.out hb).size
 clear hb
 go_wp2_with fail
 refine (HN.out _ _ _ hz1).mono ?_
 rintro e w2 ⟨rfl,hi2,hu2⟩
 have hB2:=hu2.new hB1 hs1
 have hb12:Below w1.heap.size w1 w2:=hu2.new (below_alloc (Below.refl _ _) _) (Nat.le_refl _)
 clear c0 hz1 hu2
 have hl2:=hi2.lt
 have f2:=fa1.below hb12
 generalize w1.heap.size=D1 at *
 have f3:=f2.alloc (.cells #[.bool false,.slice none 0 0] 105)
 have c1:=f3.c1
 have hz2:=(IntAt.new w2 105 (by decide)).slot
 have hB3:=bthen hB2 (below_alloc (Below.refl _ _) (.cells #[.bool false,.slice none 0 0] 105))
 have hs2:=hB2.size
 clear f1 fa1 f2 f3 hb12 hB1
 go_wp2_with fail
 refine (HD.out _ _ _ hz2).mono ?_
 rintro e w3 ⟨rfl,hi3,hu3⟩
 have hB4:=hu3.new hB3 hs2
 have hb23:Below w2.heap.size w2 w3:=hu3.new (below_alloc (Below.refl _ _) _) (Nat.le_refl _)
 have hi23:=hi2.below hb23
 have hl3:=hi3.lt
 clear c1 hz2 hu3 hi2 hb23 hB3 hB2
 generalize w2.heap.size=D2 at *
 go_wp2_with fail
 refine (sign_calls D2 0 (x.den:Int) _ hi3).mono ?_
 rintro e w4 ⟨rfl,rfl⟩
 rw [HDS.out]
 have hz4:=(RatAt.new w3 112 (by decide)).slot
 have hba:=below_alloc (Below.refl w3.heap.size w3) (.cells #[.bool false,.slice none 0 0,.bool false,.slice none 0 0] 112)
 have hs4:=hB4.size
 go_wp2_with fail
 refine (setFrac_calls w3.heap.size D1 0 D2 0 x.num (x.den:Int) _ hz4 (hi23.below hba) (hi3.below hba) HD0.out HBX.out.1 HBX.out.2 (by decide)).mono ?_
 rintro e w5 ⟨rfl,hr5,hu5⟩
 rw [Rat.num_divInt_den] at hr5
 have HB5:=Lib.hid (hu5.new (bthen hB4 hba) hs4)
 have HR5:=Lib.hid hr5
 have HS4:=Lib.hid hs4
 clear hr5 hu5 hi23 hi3 hz4 hba hB4 hl2 hl3 hs1 hs2 hs4
 go_wp2
 go_ret
 exact ⟨_,rfl,HS4.out,HR5.out,HB5.out⟩
def expR (x:Rat):Int:=let e:Int:=((T x.num.natAbs).size:Int)-((T x.den).size:Int); if (x.num*(tenR e).den-(tenR e).num*x.den).sign<0 then e-1 else e
theorem exponent_calls (g:Nat) (x:Rat) (w:World) (hx:RatAt w g x) (hp:0<x.num) (hs:Sz 600 x) (hb:Bdr 2000 x) :
  Calls Tryz.prog 167 #[.pointer (some ⟨g,0,none⟩)] w fun e w'=>e = .returned (.int .i64 (expR x))∧Below w.heap.size w w':=by
 have HX:=Lib.hid hx
 have HBX:=Lib.hid hb
 have htn:wtext x.num=T x.num.natAbs:=wtext_pos (by omega)
 have htd:wtext (x.den:Int)=T x.den:=by rw [wtext_pos (by omega),Int.natAbs_natCast]
 have hs1:=hs.1
 have hs2:=hs.2
 obtain ⟨e,he⟩:∃ e:Int,((T x.num.natAbs).size:Int)-((T x.den).size:Int)=e:=⟨_,rfl⟩
 have hsn:IntKind.i64.wrap (((T x.num.natAbs).size:Int)-((T x.den).size:Int))=e:=by rw [he]; exact IntWalk.i64_in _ (by omega)
 have hsn2:wrap64 (((T x.num.natAbs).size:Int)-((T x.den).size:Int))=e:=by rw [he]; unfold wrap64; omega
 have hel : -600≤e∧e≤600:=by omega
 have hE:=Lib.hid (show expR x=if (x.num*(tenR e).den-(tenR e).num*x.den).sign<0 then e-1 else e by unfold expR; simp only [he])
 have HT:=Lib.hid (Bdr.tenR e)
 have hw1:wrap64 (e-1)=e-1:=by unfold wrap64; omega
 clear he hx hb hs hp
 go_enter Tryz.func167,Tryz.ntmps167
 go_wp2_with fail
 refine (num_new g x _ HX.out HBX.out (by decide)).mono ?_
 rintro e1 w1 ⟨D1,rfl,hD1,hi1,hb1⟩
 go_wp2_with fail
 refine (string_calls D1 0 x.num _ hi1 HBX.out.1 (by decide)).mono ?_
 rintro e2 w2 ⟨rfl,hb2⟩
 rw [htn]
 go_wp2_with fail
 refine (denom_new g x _ (HX.out.below (bthen hb1 hb2)) HBX.out (by decide)).mono ?_
 rintro e3 w3 ⟨D3,rfl,hD3,hi3,hb3⟩
 go_wp2_with fail
 refine (string_calls D3 0 (x.den:Int) _ hi3 HBX.out.2 (by decide)).mono ?_
 rintro e4 w4 ⟨rfl,hb4⟩
 rw [htd]
 have hB4:=bthen hb1 (bthen hb2 (bthen hb3 hb4))
 clear hi1 hi3 hb1 hb2 hb3 hb4 hD1 hD3
 go_wp2_with fail
 refine (ften_calls e _ (by omega) (by omega)).mono ?_
 rintro e5 w5 ⟨G,rfl,hG,ht5,hb5⟩
 go_wp2_with fail
 refine (rcmp_calls g G x (tenR e) _ (HX.out.below (bthen hB4 hb5)) ht5 HBX.out HT.out (by unfold big; omega)).mono ?_
 rintro e6 w6 ⟨rfl,hb6⟩
 have HB6:=Lib.hid (bthen hB4 (bthen hb5 hb6))
 generalize (x.num*(tenR e).den-(tenR e).num*x.den).sign=c at hE ⊢
 clear hB4 hb5 hb6 ht5 hG hsn hsn2
 by_cases hc:c<0
 ·have hv:=Lib.hid (hE.out.trans (if_pos hc))
  go_wp2
  go_ret
  exact ⟨by rw [hv.out]; rfl,HB6.out⟩
 ·have hv:=Lib.hid (hE.out.trans (if_neg hc))
  go_wp2
  go_ret
  exact ⟨by rw [hv.out]; rfl,HB6.out⟩
noncomputable def rndR (x:Rat) (n:Int):ByteArray×Int:=let s:=wtext (evenR (x*tenR (n-1-expR x))); if n<(s.size:Int) then (s.extract 0 n.toNat,expR x+1) else (s,expR x)
theorem expR_le {x:Rat} (hs:Sz 600 x) : -601≤expR x∧expR x≤600:=by
 have hs1:=hs.1
 have hs2:=hs.2
 unfold expR
 dsimp only
 split<;>omega
theorem rounded_calls (g:Nat) (x:Rat) (n:Int) (w:World) (hx:RatAt w g x) (hp:0<x.num) (hs:Sz 600 x) (hb:Bdr 2000 x) (hn:1≤n∧n≤40) :
  Calls Tryz.prog 90 #[.pointer (some ⟨g,0,none⟩),.int .i64 n] w fun e w'=>e = .returned (.tuple #[.string (rndR x n).1,.int .i64 (rndR x n).2])∧Below w.heap.size w w':=by
 have HE:=Lib.hid (fun W (h:RatAt W g x)=>exponent_calls g x W h hp hs hb)
 have HX:=Lib.hid hx
 have HBX:=Lib.hid hb
 have hel:=expR_le hs
 have hV:rndR x n=if n<((wtext (evenR (x*tenR (n-1-expR x)))).size:Int) then ((wtext (evenR (x*tenR (n-1-expR x)))).extract 0 n.toNat,expR x+1) else (wtext (evenR (x*tenR (n-1-expR x))),expR x):=rfl
 generalize expR x=e at *
 have hTT:=(Bdr.tenR (n-1-e)).mono (show 4*(n-1-e).natAbs+1≤2801 by omega)
 have HTT:=Lib.hid hTT
 have HM:=Lib.hid ((hb.mul hTT).mono (show 2000+2801≤4801 by decide))
 have HEV:=Lib.hid (bd_even HM.out)
 have HV:=Lib.hid hV
 have hw1:wrap64 (n-1)=n-1:=by unfold wrap64; omega
 have hw2:wrap64 (n-1-e)=n-1-e:=by unfold wrap64; omega
 have hw3:wrap64 (e+1)=e+1:=by unfold wrap64; omega
 have hn0:0≤n:=by omega
 clear hx hb hs hV hTT hp
 go_enter Tryz.func90,Tryz.ntmps90
 go_wp2_with fail
 refine (HE.out _ HX.out).mono ?_
 rintro e1 w1 ⟨rfl,hb1⟩
 have hz1:=(RatAt.new w1 112 (by decide)).slot
 have hba:=below_alloc (Below.refl w1.heap.size w1) (.cells #[.bool false,.slice none 0 0,.bool false,.slice none 0 0] 112)
 have hx1:=(HX.out.below hb1).below hba
 have hB1:=bthen hb1 hba
 have hs1:=hb1.size
 go_wp2_with fail
 refine (ften_calls (n-1-e) _ (by omega) (by omega)).mono ?_
 rintro e2 w2 ⟨G,rfl,hG,ht2,hb2⟩
 go_wp2_with fail
 refine (rmul_calls w1.heap.size g G x (tenR (n-1-e)) _ (hz1.below hb2) (hx1.below hb2) ht2 HBX.out HTT.out (by decide)).mono ?_
 rintro e3 w3 ⟨rfl,hr3,hu3⟩
 have hB3:=hu3.new (bthen hB1 hb2) hs1
 generalize w1.heap.size=D1 at *
 clear hz1 hba hx1 hB1 ht2 hb2 hu3 hG
 go_wp2_with fail
 refine (feven_calls D1 _ _ hr3 HM.out (by decide) (by decide)).mono ?_
 rintro e4 w4 ⟨D4,rfl,hD4,hi4,hb4⟩
 go_wp2_with fail
 refine (string_calls D4 0 _ _ hi4 HEV.out (by decide)).mono ?_
 rintro e5 w5 ⟨rfl,hb5⟩
 have HB5:=Lib.hid (bthen hB3 (bthen hb4 hb5))
 clear hr3 hB3 hb4 hb5 hi4 hD4 hb1 hs1
 generalize wtext (evenR (x*tenR (n-1-e)))=s at *
 by_cases hc:n<(s.size:Int)
 ·have hv:=Lib.hid (HV.out.trans (if_pos hc))
  have hle:n≤(s.size:Int):=by omega
  go_wp2
  go_ret2
  exact ⟨by rw [hv.out]; rfl,HB5.out⟩
 ·have hv:=Lib.hid (HV.out.trans (if_neg hc))
  go_wp2
  go_ret2
  exact ⟨by rw [hv.out]; rfl,HB5.out⟩
end Go.Proofs.YtglaeambknhjlaaGreatDoor.Q
end
