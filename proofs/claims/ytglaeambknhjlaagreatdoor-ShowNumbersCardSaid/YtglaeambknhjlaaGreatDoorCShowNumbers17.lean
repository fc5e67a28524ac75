/- Texts under the proof, joined by a program (prune.py): HAll, HTwo, QRatB, QPlus, Q196, Q212, Q240, QFr4, QRatC, QRatD, QComp, Q214, Q218, Q219, Q215, QPure5, Q112, Q114, QFAdd. -/
import Derived.Test.YtglaeambknhjlaaGreatDoorCShowNumbers09
import Derived.Laws.CopyOwn
import Derived.Test.YtglaeambknhjlaaGreatDoorCShowNumbers04
import Derived.WalkSpells
import Derived.StillTailTactics
import Derived.Shelf.Abstract
import Derived.Test.YtglaeambknhjlaaGreatDoorCShowNumbers07
import Derived.Test.YtglaeambknhjlaaGreatDoorCShowNumbers13
import Derived.Test.YtglaeambknhjlaaGreatDoorCShowNumbers11
import Derived.Test.YtglaeambknhjlaaGreatDoorCShowNumbers14
import Derived.Test.YtglaeambknhjlaaGreatDoorCShowNumbers16
set_option linter.unusedVariables false
set_option linter.unusedSimpArgs false
set_option exponentiation.threshold 20001
set_option maxHeartbeats 8000000
set_option maxRecDepth 100000
section
namespace Go.Proofs.ZP
open Go.RowKit Go.Proofs.ZW.Wa
def RowR (w:World) (A:Option Addr) (ps:List (ByteArray×ByteArray)):Prop:=
 ∀ j (h:j<ps.length),∃ b o,A=some ⟨b,o,none⟩∧b<w.heap.size∧w.cell? ⟨b,o+j*2,none⟩=some (.string ps[j].1)∧w.cell? ⟨b,o+j*2+1,none⟩=some (.string ps[j].2)
theorem RowR.below {w w':World} {A:Option Addr} {ps:List (ByteArray×ByteArray)} (h:RowR w A ps) (hb:Below w.heap.size w w'):RowR w' A ps:=fun j hj=>by
 obtain ⟨b,o,e,hl,h1,h2⟩:=h j hj
 have hs:=hb.size
 exact ⟨b,o,e,by omega,(hb.cell (p:=⟨b,o+j*2,none⟩) hl).trans h1,(hb.cell (p:=⟨b,o+j*2+1,none⟩) hl).trans h2⟩
def ptrs (n:Nat) (ds:List Nat):List Value:=ds.map (fun d=>Value.pointer (some ⟨d,0,none⟩))++List.replicate (n-ds.length) (.pointer none)
theorem ptrs_length {n:Nat} {ds:List Nat} (h:ds.length≤n):(ptrs n ds).length=n:=by unfold ptrs; simp; omega
theorem ptrs_snoc {n:Nat} {ds:List Nat} (h:ds.length<n) (d:Nat):(ptrs n ds).take ds.length++([Value.pointer (some ⟨d,0,none⟩)]++(ptrs n ds).drop (ds.length+1))=ptrs n (ds ++ [d]):=by
 have hl:(ds.map (fun d=>Value.pointer (some ⟨d,0,none⟩))).length=ds.length:=by simp
 unfold ptrs
 rw [List.take_left' hl,List.drop_append,hl,show ds.length+1-ds.length=1 by omega,List.drop_of_length_le (by rw [hl]; omega),List.nil_append,List.drop_replicate]
 simp only [List.map_append,List.map_cons,List.map_nil,List.length_append,List.length_singleton,List.append_assoc]
 congr 3
theorem upd_setRow {w:World} {g:Nat} {cur new:Array Value} {t:TypeId} (hg:w.heap[g]? = some (.cells cur t (0,0))) (ht:t≠171) (hs:new.size=cur.size):Upd w (w.setRow g new) g 0 cur.size where
 os:=rfl
 tape:=rfl
 output:=rfl
 size:=by simp [World.setRow]
 other:=fun k _ hne=>setRow_other w g k new hne
 word:=fun k cs' hk=>setRow_other w g k new (by
  rintro rfl
  rw [hg] at hk
  injection hk with hk
  injection hk with _ hk
  exact ht hk)
 same:=fun cs' t' hk=>by
  rw [hg] at hk
  injection hk with hk
  injection hk with e1 e2
  subst e1; subst e2
  exact ⟨new,setRow_heap w g cur new t (0,0) hg,hs,fun i hi=>by
   rcases hi with hi|hi
   ·omega
   ·rw [Array.getElem?_eq_none (by omega),Array.getElem?_eq_none (by omega)]⟩
structure ASt (w wr:World) (g n:Nat) (X:Nat→Rat) (ds:List Nat):Prop where
 le:ds.length≤n
 blk:wr.heap[g]? = some (.cells (ptrs n ds).toArray 82 (0,0))
 at_:∀ j (h:j<ds.length),w.heap.size≤ds[j]∧g≠ds[j]∧RatAt wr ds[j] (X j)
 below:Below w.heap.size w wr
 ge:w.heap.size≤g
theorem ASt.below' {w wr w':World} {g n:Nat} {X:Nat→Rat} {ds:List Nat} (h:ASt w wr g n X ds) (hb:Below wr.heap.size wr w'):ASt w w' g n X ds where
 le:=h.le
 blk:=(hb.block _ (zaz h.blk)).trans h.blk
 at_:=fun j hj=>by
  obtain ⟨h1,h2,h3⟩:=h.at_ j hj
  exact ⟨h1,h2,h3.below hb⟩
 below:=bthen h.below hb
 ge:=h.ge
theorem ASt.more {w wr:World} {g n:Nat} {X:Nat→Rat} {ds:List Nat} (h:ASt w wr g n X ds) (hl:ds.length<n) (d:Nat) (hd:w.heap.size≤d) (hne:g≠d) (hx:RatAt wr d (X ds.length)) :
  Hid (ASt w (wr.setRow g ((ptrs n ds).take ds.length++([Value.pointer (some ⟨d,0,none⟩)]++(ptrs n ds).drop (ds.length+1))).toArray) g n X (ds ++ [d])):=by
 rw [ptrs_snoc hl]
 have hu:=upd_setRow (new:=(ptrs n (ds ++ [d])).toArray) h.blk (by decide) (by
  simp only [List.size_toArray]
  rw [ptrs_length (by simp; omega),ptrs_length h.le])
 exact {
  le:=by simp; omega
  blk:=setRow_heap _ _ _ _ _ _ h.blk
  at_:=fun j hj=>by
   rw [List.length_append,List.length_singleton] at hj
   by_cases e:j<ds.length
   ·obtain ⟨h1,h2,h3⟩:=h.at_ j e
    rw [List.getElem_append_left e]
    exact ⟨h1,h2,h3.upd hu (fun e=>h2 e.symm)⟩
   ·have:j=ds.length:=by omega
    subst this
    rw [List.getElem_append_right (Nat.le_refl _)]
    simp only [Nat.sub_self,List.getElem_cons_zero]
    exact ⟨hd,hne,hx.upd hu (fun e=>hne e.symm)⟩
  below:=below_setRow h.below h.ge _
  ge:=h.ge }
theorem Upd.keepB {w w':World} {b lo hi:Nat} (h:Upd w w' b lo hi):KeepB w w' b:=⟨h.os,h.tape,h.output,h.size,h.other⟩
noncomputable def tell (why:Int) (r:Rat):ByteArray×ByteArray×Int:=if why=0 then toldR r else (⟨#[]⟩,⟨#[]⟩,why)
end Go.Proofs.ZP
end
section
namespace Go.Proofs.ZQ
open Go.RowKit Go.Proofs.ZW.Wa Go.Proofs.ZP
noncomputable def twoF (why:Rat→Rat→Int) (op:Rat→Rat→Rat) (a0 a1 b0 b1:ByteArray):Option (ByteArray×ByteArray×Int):=by
 classical exact if h:(∃ x,RR a0 a1 x)∧∃ y,RR b0 b1 y then some (tell (why h.1.choose h.2.choose) (op h.1.choose h.2.choose)) else some (⟨#[]⟩,⟨#[]⟩,3)
noncomputable def oneF (why:Rat→Int) (op:Rat→Rat) (a0 a1:ByteArray):Option (ByteArray×ByteArray×Int):=by
 classical exact if h:∃ x,RR a0 a1 x then some (tell (why h.choose) (op h.choose)) else some (⟨#[]⟩,⟨#[]⟩,3)
noncomputable def rat_Add.f (a0_0 a0_1 a1_0 a1_1:ByteArray):Option (ByteArray×ByteArray×Int):=twoF (fun x y=>0) (fun x y=>x+y) a0_0 a0_1 a1_0 a1_1
noncomputable def rat_Sub.f (a0_0 a0_1 a1_0 a1_1:ByteArray):Option (ByteArray×ByteArray×Int):=twoF (fun x y=>0) (fun x y=>x-y) a0_0 a0_1 a1_0 a1_1
noncomputable def rat_Mul.f (a0_0 a0_1 a1_0 a1_1:ByteArray):Option (ByteArray×ByteArray×Int):=twoF (fun x y=>0) (fun x y=>x*y) a0_0 a0_1 a1_0 a1_1
noncomputable def rat_Neg.f (a0_0 a0_1:ByteArray):Option (ByteArray×ByteArray×Int):=oneF (fun x=>0) (fun x => -x) a0_0 a0_1
noncomputable def rat_Quo.f (a0_0 a0_1 a1_0 a1_1:ByteArray):Option (ByteArray×ByteArray×Int):=twoF (fun x y=>if y=0 then 8 else 0) (fun x y=>x/y) a0_0 a0_1 a1_0 a1_1
noncomputable def rat_Inv.f (a0_0 a0_1:ByteArray):Option (ByteArray×ByteArray×Int):=oneF (fun x=>if x=0 then 8 else 0) (fun x=>x⁻¹) a0_0 a0_1
end Go.Proofs.ZQ
end
section
namespace Go.Proofs.ZQ
open Go.RowKit Go.Proofs.ZW.Wa Go.Proofs.ZP Go.Proofs.ZW.Wb Go.Proofs.ZW.Wc
def FrAt (w:World) (b:Nat) (s:Bool) (x y:ByteArray):Prop:=w.heap[b]? = some (.cells #[.bool s,.string x,.string y] 66 (0,0))
theorem FrAt.c0 {w:World} {b:Nat} {s:Bool} {x y:ByteArray} (h:FrAt w b s x y):w.cell? ⟨b,0,none⟩=some (.bool s):=(zad h 0).trans rfl
theorem FrAt.c1 {w:World} {b:Nat} {s:Bool} {x y:ByteArray} (h:FrAt w b s x y):w.cell? ⟨b,1,none⟩=some (.string x):=(zad h 1).trans rfl
theorem FrAt.c2 {w:World} {b:Nat} {s:Bool} {x y:ByteArray} (h:FrAt w b s x y):w.cell? ⟨b,2,none⟩=some (.string y):=(zad h 2).trans rfl
theorem FrAt.below {w w':World} {b:Nat} {s:Bool} {x y:ByteArray} (h:FrAt w b s x y) (hb:Below w.heap.size w w'):FrAt w' b s x y:=(hb.block _ (zaz h)).trans h
theorem FrAt.keep {w w':World} {b n:Nat} {s:Bool} {x y:ByteArray} (h:FrAt w b s x y) (hb:Below n w w') (hn:b<n):FrAt w' b s x y:=(hb.block _ hn).trans h
theorem FrAt.new (w:World) (s:Bool) (x y:ByteArray):FrAt (w.alloc (.cells #[.bool s,.string x,.string y] 66)) w.heap.size s x y:=zaW w _
theorem FrAt.alloc {w:World} {b:Nat} {s:Bool} {x y:ByteArray} (h:FrAt w b s x y) (o:Obj):FrAt (w.alloc o) b s x y:=h.below (zab (Below.refl _ _) _)
noncomputable def c2_Plus.f (a0_0:Bool) (a0_1:ByteArray) (a0_2:ByteArray) (a1_0:Bool) (a1_1:ByteArray) (a1_2:ByteArray):Option (Bool×ByteArray×ByteArray):=(c1_Times.f a0_1 a1_2).bind fun t601=>((c1_Times.f a1_1 a0_2).bind fun t602=>((c1_Times.f a0_2 a1_2).bind fun t603=>(if (a0_0 == a1_0)=true then ((c1_Plus.f t601 t602).bind fun t604=>((c2_Lowest.f a0_0 t604 t603).bind fun bt605=>(some (bt605.1,bt605.2.1,bt605.2.2)))) else ((c1_Compare.f t601 t602).bind fun t608=>(if t608≥0 then ((c1_Minus.f t601 t602).bind fun t609=>((c2_Lowest.f a0_0 t609 t603).bind fun bt610=>(some (bt610.1,bt610.2.1,bt610.2.2)))) else ((c1_Minus.f t602 t601).bind fun t613=>((c2_Lowest.f a1_0 t613 t603).bind fun bt614=>(some (bt614.1,bt614.2.1,bt614.2.2)))))))))
end Go.Proofs.ZQ
end
section
namespace Go.Proofs.ZQ
open Go.RowKit Go.Proofs.ZW.Wa Go.Proofs.ZW.Wb Go.Proofs.ZW.Wc
attribute [local go_sem] zaE zaD zaL zaK zaC zaB zaH zaG
noncomputable def c2_Times.f (a0_0:Bool) (a0_1:ByteArray) (a0_2:ByteArray) (a1_0:Bool) (a1_1:ByteArray) (a1_2:ByteArray):Option (Bool×ByteArray×ByteArray):=(c1_Times.f a0_1 a1_1).bind fun t618=>((c1_Times.f a0_2 a1_2).bind fun t619=>((c2_Lowest.f (a0_0 != a1_0) t618 t619).bind fun bt620=>(some (bt620.1,bt620.2.1,bt620.2.2))))
noncomputable def c2_Times.B1:List Nat:=[0,1,0,4,15,0,32,0,128,480,0,1024,0,4096,16352,32767,65535]
noncomputable def c2_Minus.f (a0_0:Bool) (a0_1:ByteArray) (a0_2:ByteArray):Option (Bool×ByteArray×ByteArray):=if a0_0=true then (some (false,a0_1,a0_2)) else (some ((a0_1.toList != ([48]:List UInt8)),a0_1,a0_2))
noncomputable def c2_Over.f (a0_0:Bool) (a0_1:ByteArray) (a0_2:ByteArray):Option (Bool×ByteArray×ByteArray):=some (a0_0,a0_2,a0_1)
end Go.Proofs.ZQ
end
section
namespace Go.Proofs.ZQ
open Go.RowKit Go.Proofs.ZW.Wa Go.Proofs.ZP
def Sz (k:Nat) (x:Rat):Prop:=(T x.num.natAbs).size≤k∧(T x.den).size≤k
theorem rr_sz {a b:ByteArray} {x:Rat} (h:RR a b x):Sz 600 x:=⟨(zaM (k:=600) (by decide)).2 h.ln,(zaM (k:=600) (by decide)).2 h.ld⟩
theorem sz_div {s:Bool} {a b k:Nat} (hb:0<b) (ha:(T a).size≤k) (hbs:(T b).size≤k):Sz k (Rat.divInt (sgn s a) b):=by
 obtain ⟨f1,f2,f3⟩:=zbO s a b hb
 refine ⟨?_,?_⟩
 ·rw [f1]; exact Nat.le_trans (za0 (Nat.div_le_self _ _)) ha
 ·rw [f2]; exact Nat.le_trans (za0 (Nat.div_le_self _ _)) hbs
theorem Times_Fr {x y:Rat} {k:Nat} (hx:Sz k x) (hy:Sz k y) (hk:k≤1000000):c2_Times.f (Fr x).1 (Fr x).2.1 (Fr x).2.2 (Fr y).1 (Fr y).2.1 (Fr y).2.2=some (Fr (x*y))∧Sz (2*k) (x*y):=by
 have hxd:=x.den_pos
 have hyd:=y.den_pos
 obtain ⟨hx1,hx2⟩:=hx
 obtain ⟨hy1,hy2⟩:=hy
 have hp:x*y=Rat.divInt (sgn (decide (x.num<0) != decide (y.num<0)) (x.num.natAbs*y.num.natAbs)) ((x.den*y.den:Nat):Int):=by
  rw [zb2,←sgn_mul,zbZ,zbZ,Int.natCast_mul]
 rw [hp]
 unfold c2_Times.f
 have m1:=zaR x.num.natAbs y.num.natAbs
 have m3:=zaR x.den y.den
 have hd:0<x.den*y.den:=Nat.mul_pos hxd hyd
 show (c1_Times.f (T x.num.natAbs) (T y.num.natAbs)).bind _=_∧_
 rw [zcd (by omega) (by omega),Option.bind_some]
 show (c1_Times.f (T x.den) (T y.den)).bind _=_∧_
 rw [zcd (by omega) (by omega),Option.bind_some]
 have e1:(Fr x).1=decide (x.num<0):=rfl
 have e2:(Fr y).1=decide (y.num<0):=rfl
 rw [e1,e2,lowest_T _ _ _ hd (by omega) (by omega),Option.bind_some]
 exact ⟨rfl,sz_div hd (by omega) (by omega)⟩
theorem Over_Fr {x:Rat} (h0:x≠0):c2_Over.f (Fr x).1 (Fr x).2.1 (Fr x).2.2=some (Fr x⁻¹):=by
 have hn:=num_ne h0
 obtain ⟨f1,f2,f3⟩:=zbO (decide (x.num<0)) x.den x.num.natAbs (by omega)
 have hi:x⁻¹=Rat.divInt (sgn (decide (x.num<0)) x.den) x.num.natAbs:=by
  rw [zbN]
  refine (Rat.divInt_eq_divInt_iff hn (by omega)).2 ?_
  by_cases h:x.num<0
  ·have e:x.num = -(x.num.natAbs:Int):=by omega
   have e3:sgn true x.den = -(x.den:Int):=rfl
   rw [decide_eq_true h,e3]
   generalize x.num.natAbs=m at e
   rw [e,Int.neg_mul_neg]
  ·have e:x.num=(x.num.natAbs:Int):=by omega
   have e3:sgn false x.den=(x.den:Int):=rfl
   rw [decide_eq_false h,e3]
   generalize x.num.natAbs=m at e
   rw [e]
 have hg:Nat.gcd x.den x.num.natAbs=1:=by rw [Nat.gcd_comm]; exact x.reduced
 rw [hg,Nat.div_one] at f1 f2
 have hF:Fr x⁻¹=(decide (x.num<0),T x.den,T x.num.natAbs):=by
  unfold Fr
  rw [hi,f1,f2,f3,decide_eq_true x.den_nz,Bool.and_true]
 rw [hF]
 rfl
theorem core_no {a b:ByteArray} (h:¬ ∃ x,RR a b x):coreB (spl a).1 (spl a).2 b=false:=by
 cases hc:coreB (spl a).1 (spl a).2 b
 ·rfl
 ·exact absurd ((core_iff a b).1 hc) h
theorem neg_sz {x:Rat} {k:Nat} (h:Sz k x):Sz k (-x):=by
 unfold Sz at *
 rw [Rat.neg_num,Int.natAbs_neg]; exact h
theorem rr_zero {a b:ByteArray} {y:Rat} (h:RR a b y):a.toList=([48]:List UInt8)↔y=0:=by
 rw [b48,h.num]
 have e0:T 0=wtext 0:=(zaN (x:=0) (by decide)).symm
 constructor
 ·intro e
  rw [e0] at e
  exact Rat.num_eq_zero.1 (wtext_inj e)
 ·rintro rfl; exact e0.symm
theorem inv_sz {x:Rat} {k:Nat} (h0:x≠0) (h:Sz k x):Sz k x⁻¹:=by
 have hF:=Over_Fr h0
 unfold c2_Over.f at hF
 have hF:=Option.some.inj hF
 have e1:=congrArg (fun r=>r.2.1) hF
 have e2:=congrArg (fun r=>r.2.2) hF
 exact ⟨by rw [←show _=T (x⁻¹).num.natAbs from e1]; exact h.2,by rw [←show _=T (x⁻¹).den from e2]; exact h.1⟩
def cmpR (x y:Rat):Int:=(x.num*y.den-y.num*x.den).sign
noncomputable def rat_Cmp.f (a0_0 a0_1 a1_0 a1_1:ByteArray):Option (Int×Int):=by
 classical exact if h:(∃ x,RR a0_0 a0_1 x)∧∃ y,RR a1_0 a1_1 y then some (cmpR h.1.choose h.2.choose,0) else some (0,3)
noncomputable def rat_Floor.f (a0_0 a0_1:ByteArray):Option (ByteArray×ByteArray×Int):=oneF (fun x=>0) (fun x=>((x.floor:Int):Rat)) a0_0 a0_1
end Go.Proofs.ZQ
end
section
namespace Go.Proofs.ZQ
open Go.RowKit Go.Proofs.ZW.Wa Go.Proofs.ZP Go.Proofs.ZW.Wb Go.Proofs.ZW.Wc
noncomputable def c2_Compare.f (a0_0:Bool) (a0_1:ByteArray) (a0_2:ByteArray) (a1_0:Bool) (a1_1:ByteArray) (a1_2:ByteArray):Option (Int):=(c2_Minus.f a1_0 a1_1 a1_2).bind fun bt821=>((c2_Plus.f a0_0 a0_1 a0_2 bt821.1 bt821.2.1 bt821.2.2).bind fun bt824=>(if bt824.2.1.toList=([48]:List UInt8) then (some 0) else (if bt824.1=true then (some (-1)) else (some 1))))
end Go.Proofs.ZQ
end
section
namespace Go.Proofs.ZQ
open Go.RowKit Go.Proofs.ZW.Wa Go.Proofs.ZW.Wb Go.Proofs.ZW.Wc
attribute [local go_sem] zaE zaD zaL zaK zaC zaB zaH zaG
noncomputable def c2_Cmp.j0:Nat→Bool→ByteArray→ByteArray→ByteArray→ByteArray→Option (Int×Int)
 | 0,_,_,_,_,_=>none
 | k+1,x13,x801000,x801001,x802000,x802001=>if x13=true then (some (0,3)) else ((c2_Read.f k x801000 x801001).bind fun bt804=>((c2_Read.f k x802000 x802001).bind fun bt807=>((c2_Compare.f bt804.1 bt804.2.1 bt804.2.2 bt807.1 bt807.2.1 bt807.2.2).bind fun t810=>(some (t810,0)))))
noncomputable def c2_Cmp.f (k:Nat) (a0_0:ByteArray) (a0_1:ByteArray) (a1_0:ByteArray) (a1_1:ByteArray):Option (Int×Int):=(c2_Right.f k a0_0 a0_1).bind fun t802=>(if t802=true then ((c2_Right.f k a1_0 a1_1).bind fun t803=>(c2_Cmp.j0 k (!t803) a0_0 a0_1 a1_0 a1_1)) else (c2_Cmp.j0 k true a0_0 a0_1 a1_0 a1_1))
noncomputable def c2_Down.j0:Nat→ByteArray→Bool→Bool→ByteArray→ByteArray→Option (Bool×ByteArray×ByteArray)
 | 0,_,_,_,_,_=>none
 | k+1,x3,x18,x817000,x817001,x817002=>if x18=true then ((c1_Plus.f x3 (⟨#[49]⟩:ByteArray)).bind fun t820=>((c2_Lowest.f x817000 t820 (⟨#[49]⟩:ByteArray)).bind fun bt821=>(some (bt821.1,bt821.2.1,bt821.2.2)))) else ((c2_Lowest.f x817000 x3 (⟨#[49]⟩:ByteArray)).bind fun bt824=>(some (bt824.1,bt824.2.1,bt824.2.2)))
noncomputable def c2_Down.f (k:Nat) (a0_0:Bool) (a0_1:ByteArray) (a0_2:ByteArray):Option (Bool×ByteArray×ByteArray):=(c1_Divide.f a0_1 a0_2).bind fun bt818=>(if a0_0=true then (c2_Down.j0 k bt818.1 (bt818.2.toList != ([48]:List UInt8)) a0_0 a0_1 a0_2) else (c2_Down.j0 k bt818.1 false a0_0 a0_1 a0_2))
noncomputable def c2_Floor.f (k:Nat) (a0_0:ByteArray) (a0_1:ByteArray):Option (ByteArray×ByteArray×Int):=(c2_Right.f k a0_0 a0_1).bind fun t829=>(if t829=true then ((c2_Read.f k a0_0 a0_1).bind fun bt830=>((c2_Down.f k bt830.1 bt830.2.1 bt830.2.2).bind fun bt833=>((c2_Told.f k bt833.1 bt833.2.1 bt833.2.2).bind fun bt836=>(some (bt836.1,bt836.2.1,bt836.2.2))))) else (some ((⟨#[]⟩:ByteArray),(⟨#[]⟩:ByteArray),3)))
noncomputable def rat_Sign.f (a0_0:ByteArray) (a0_1:ByteArray):Option (Int×Int):=(rat_Of.f 0).bind fun bt812=>((rat_Cmp.f a0_0 a0_1 bt812.1 bt812.2).bind fun bt814=>(some (bt814.1,bt814.2)))
end Go.Proofs.ZQ
end
section
namespace Go.Proofs.ZQ
open Go.RowKit Go.Proofs.ZW.Wa Go.Proofs.ZP
theorem cmpR_sub (x y:Rat):cmpR x y=(x-y).num.sign:=by
 have hd:(0:Int)<(x.den:Int)*y.den:=Int.mul_pos (by have:=x.den_pos; omega) (by have:=y.den_pos; omega)
 have e:x-y=Rat.divInt (x.num*y.den-y.num*x.den) (x.den*y.den):=by
  rw [Rat.sub_eq_add_neg,zcv]
  have e1:(-y).num = -y.num:=Rat.neg_num y
  have e2:(-y).den=y.den:=rfl
  rw [e1,e2,Int.neg_mul]; rfl
 have h:=num_mul (x.num*y.den-y.num*x.den) (x.den*y.den) (by omega)
 rw [←e] at h
 have hp:(0:Int)<(x-y).den:=by have:=(x-y).den_pos; omega
 unfold cmpR
 refine (sign_scale hd hp ?_).symm
 rw [h,Int.mul_comm]
end Go.Proofs.ZQ
end
section
namespace Go.Proofs.ZQ
open Go.RowKit Go.Proofs.ZW.Wa Go.Proofs.ZW.Wb Go.Proofs.ZW.Wc
attribute [local go_sem] zaE zaD zaL zaK zaC zaB zaH zaG
noncomputable def c1_low.f (a0:Bool) (a1:ByteArray) (a2:ByteArray):Option (Bool×ByteArray×ByteArray):=if a1.toList=([48]:List UInt8) then (some (false,(⟨#[48]⟩:ByteArray),(⟨#[49]⟩:ByteArray))) else ((c1_Common.f a1 a2).bind fun t298=>((c1_Divide.f a1 t298).bind fun bt299=>((c1_Divide.f a2 t298).bind fun bt301=>(some (a0,bt299.1,bt301.1)))))
theorem c1_low.calls (a0:Bool) (a1:ByteArray) (a2:ByteArray) (r1:Bool) (r2:ByteArray) (r3:ByteArray) (w:World) (h:c1_low.f a0 a1 a2=some (r1,r2,r3)) :
  Calls Tryz.prog 163 #[.bool a0,.string a1,.string a2] w fun e w'=>e = .returned (.agg #[.bool r1,.string r2,.string r3])∧Below w.heap.size w w':=by
 have hu28:=Tryz.underlying28
 have HB:=Aside0.mk (Below.refl w.heap.size w)
 have H:(if a1.toList=([48]:List UInt8) then (some (false,(⟨#[48]⟩:ByteArray),(⟨#[49]⟩:ByteArray))) else ((c1_Common.f a1 a2).bind fun t298=>((c1_Divide.f a1 t298).bind fun bt299=>((c1_Divide.f a2 t298).bind fun bt301=>(some (a0,bt299.1,bt301.1))))))=some (r1,r2,r3):=h
 clear h
 by_cases c4:a1.toList=([48]:List UInt8)
 ·rw [if_pos c4] at H
  have c4b0:(a1.toList == ([48]:List UInt8))=true:=beq_iff_eq.mpr c4
  have c4b1:(a1.toList != ([48]:List UInt8))=false:=bne_eq_false_iff_eq.mpr c4
  clear c4
  simp only [Option.some.injEq,Prod.mk.injEq] at H
  obtain ⟨rfl,rfl,rfl⟩:=H
  go_enter Tryz.func163,Tryz.ntmps163
  go_wp2_with (first|((with_reducible refine zau (N:=6) rfl ?_); refine zas ?hg (N:=6) ?hd (cs:=#[.bool false,.string (⟨#[]⟩:ByteArray),.string (⟨#[]⟩:ByteArray)]) (t:=28) ?hr ?_; (case hd=>rfl); (case hg=>rfl); (case hr=>first|(go_simp; done)|(go_simp; rfl)); intro gb297 hg w5 hbox hb; have n0_:=Aside0.mk (zak (by repeat (first|(with_reducible first|exact HB.out|apply zab|apply zaa|apply zac)|exact HB.out)) hb); have n1_:=Aside0.mk (hbox); have n2_:=Aside0.mk ((by rw [hg]; exact (zal (by repeat (first|(with_reducible first|exact HB.out|apply zab|apply zaa|apply zac)|exact HB.out))):w.heap.size≤gb297)); have n3_:=Aside0.mk ((by rw [hg]; exact (zal (by repeat (first|(with_reducible first|exact HB.out|apply zab|apply zaa|apply zac)|exact HB.out))):w.heap.size≤gb297)); clear HB; have HB:=n0_; have BK297:=n1_; have GW297:=n2_; have GE297:=n3_; clear n0_ n1_ n2_ n3_; clear hb hbox hg; have hcz6_0:w5.cell? ⟨gb297,0,none⟩=some (.bool false):=(zad BK297.out 0).trans rfl; have hcz6_1:w5.cell? ⟨gb297,1,none⟩=some (.string (⟨#[]⟩:ByteArray)):=(zad BK297.out 1).trans rfl; have hcz6_2:w5.cell? ⟨gb297,2,none⟩=some (.string (⟨#[]⟩:ByteArray)):=(zad BK297.out 2).trans rfl; have hfz6_0:=zaj BK297.out 0; have hfz6_1:=zaj BK297.out 1; have hfz6_2:=zaj BK297.out 2))
  refine bodyPost_ret (results_cell_row rfl _ _ gb297 28 #[.bool false,.string (⟨#[48]⟩:ByteArray),.string (⟨#[49]⟩:ByteArray)] (0,0) _ rfl (by (with_reducible repeat (first|refine zaf ?_ _|refine zai ?_|refine zag ?_ _)); refine zaw (cs:=#[.bool false,.string (⟨#[48]⟩:ByteArray),.string (⟨#[]⟩:ByteArray)]) ?_ 2 _ rfl; (with_reducible repeat (first|refine zaf ?_ _|refine zai ?_|refine zag ?_ _)); refine zaw (cs:=#[.bool false,.string (⟨#[]⟩:ByteArray),.string (⟨#[]⟩:ByteArray)]) ?_ 1 _ rfl; (with_reducible repeat (first|refine zaf ?_ _|refine zai ?_|refine zag ?_ _)); refine zaw (cs:=#[.bool false,.string (⟨#[]⟩:ByteArray),.string (⟨#[]⟩:ByteArray)]) ?_ 0 _ rfl; (with_reducible repeat (first|refine zaf ?_ _|refine zai ?_|refine zag ?_ _)); exact BK297.out) Tryz.underlying28 rfl (by kernel_rfl)) rfl ?_
  exact ⟨by first|rfl|(simp [zan,zam]<;>rfl)|(simp [*,zan,zam]<;>rfl),by repeat (first|(with_reducible first|exact HB.out|apply zab|apply zaa|apply zac|refine zae ?_ GE297.out)|exact HB.out)⟩
 ·rw [if_neg c4] at H
  have c4b0:(a1.toList == ([48]:List UInt8))=false:=beq_eq_false_iff_ne.mpr c4
  have c4b1:(a1.toList != ([48]:List UInt8))=true:=bne_iff_ne.mpr c4
  replace H:=Option.bind_eq_some_iff.mp H
  obtain ⟨t298,A70,H⟩:=H
  replace H:((c1_Divide.f a1 t298).bind fun bt299=>((c1_Divide.f a2 t298).bind fun bt301=>(some (a0,bt299.1,bt301.1))))=some (r1,r2,r3):=H
  have A7:=Aside0.mk A70
  clear A70
  replace H:=Option.bind_eq_some_iff.mp H
  obtain ⟨⟨t299,t300⟩,A80,H⟩:=H
  replace H:((c1_Divide.f a2 t298).bind fun bt301=>(some (a0,t299,bt301.1)))=some (r1,r2,r3):=H
  have A8:=Aside0.mk A80
  clear A80
  replace H:=Option.bind_eq_some_iff.mp H
  obtain ⟨⟨t301,t302⟩,A90,H⟩:=H
  replace H:(some (a0,t299,t301))=some (r1,r2,r3):=H
  have A9:=Aside0.mk A90
  clear A90
  simp only [Option.some.injEq,Prod.mk.injEq] at H
  obtain ⟨rfl,rfl,rfl⟩:=H
  go_enter Tryz.func163,Tryz.ntmps163
  go_wp2_with (first|((with_reducible refine zau (N:=6) rfl ?_); refine zas ?hg (N:=6) ?hd (cs:=#[.bool false,.string (⟨#[]⟩:ByteArray),.string (⟨#[]⟩:ByteArray)]) (t:=28) ?hr ?_; (case hd=>rfl); (case hg=>rfl); (case hr=>first|(go_simp; done)|(go_simp; rfl)); intro gb297 hg w10 hbox hb; have n0_:=Aside0.mk (zak (by repeat (first|(with_reducible first|exact HB.out|apply zab|apply zaa|apply zac)|exact HB.out)) hb); have n1_:=Aside0.mk (hbox); have n2_:=Aside0.mk ((by rw [hg]; exact (zal (by repeat (first|(with_reducible first|exact HB.out|apply zab|apply zaa|apply zac)|exact HB.out))):w.heap.size≤gb297)); have n3_:=Aside0.mk ((by rw [hg]; exact (zal (by repeat (first|(with_reducible first|exact HB.out|apply zab|apply zaa|apply zac)|exact HB.out))):w.heap.size≤gb297)); clear HB; have HB:=n0_; have BK297:=n1_; have GW297:=n2_; have GE297:=n3_; clear n0_ n1_ n2_ n3_; clear hb hbox hg)|((with_reducible refine zap (f:=95) rfl ?_); refine zaA (some 13) rfl rfl Tryz.func95 (by kernel_rfl) rfl #[.string a1,.string a2] rfl (by (try simp only [List.map_toArray,List.map_cons,List.map_nil]); first|done|rfl|(simp only [List.length_drop,List.length_take]; rfl)) ?_; (with_reducible refine (c1_Common.calls a1 a2 t298 _ A7.out).mono ?_); rintro e w11 ⟨rfl,hb⟩; refine ⟨_,rfl,?_⟩; have n0_:=Aside0.mk (zao (g:=gb297) (o:=.cells #[.bool false,.string (⟨#[]⟩:ByteArray),.string (⟨#[]⟩:ByteArray)] 28 (0,0)) (by (with_reducible repeat (first|refine zaf ?_ _|refine zai ?_|refine zag ?_ _)); exact BK297.out) hb); have n1_:=Aside0.mk (zak (by repeat (first|(with_reducible first|exact HB.out|apply zab|apply zaa|apply zac|refine zae ?_ GE297.out)|exact HB.out)) hb); clear BK297; clear HB; have BK297:=n0_; have HB:=n1_; clear n0_ n1_; (try clear hb); (try clear hb2); (try clear hk); (try clear hi))|((with_reducible refine zap (f:=128) rfl ?_); refine zaA (some 17) rfl rfl Tryz.func128 (by kernel_rfl) rfl #[.string a1,.string t298] rfl (by (try simp only [List.map_toArray,List.map_cons,List.map_nil]); first|done|rfl|(simp only [List.length_drop,List.length_take]; rfl)) ?_; (with_reducible refine (c1_Divide.calls a1 t298 t299 t300 _ A8.out).mono ?_); rintro e w12 ⟨rfl,hb⟩; refine ⟨_,rfl,?_⟩; have n0_:=Aside0.mk (zao (g:=gb297) (o:=.cells #[.bool false,.string (⟨#[]⟩:ByteArray),.string (⟨#[]⟩:ByteArray)] 28 (0,0)) (by (with_reducible repeat (first|refine zaf ?_ _|refine zai ?_|refine zag ?_ _)); exact BK297.out) hb); have n1_:=Aside0.mk (zak (by repeat (first|(with_reducible first|exact HB.out|apply zab|apply zaa|apply zac|refine zae ?_ GE297.out)|exact HB.out)) hb); clear BK297; clear HB; have BK297:=n0_; have HB:=n1_; clear n0_ n1_; (try clear hb); (try clear hb2); (try clear hk); (try clear hi))|((with_reducible refine zap (f:=128) rfl ?_); refine zaA (some 23) rfl rfl Tryz.func128 (by kernel_rfl) rfl #[.string a2,.string t298] rfl (by (try simp only [List.map_toArray,List.map_cons,List.map_nil]); first|done|rfl|(simp only [List.length_drop,List.length_take]; rfl)) ?_; (with_reducible refine (c1_Divide.calls a2 t298 t301 t302 _ A9.out).mono ?_); rintro e w13 ⟨rfl,hb⟩; refine ⟨_,rfl,?_⟩; have n0_:=Aside0.mk (zao (g:=gb297) (o:=.cells #[.bool false,.string (⟨#[]⟩:ByteArray),.string (⟨#[]⟩:ByteArray)] 28 (0,0)) (by (with_reducible repeat (first|refine zaf ?_ _|refine zai ?_|refine zag ?_ _)); exact BK297.out) hb); have n1_:=Aside0.mk (zak (by repeat (first|(with_reducible first|exact HB.out|apply zab|apply zaa|apply zac|refine zae ?_ GE297.out)|exact HB.out)) hb); clear BK297; clear HB; have BK297:=n0_; have HB:=n1_; clear n0_ n1_; (try clear hb); (try clear hb2); (try clear hk); (try clear hi); have hcz14_0:w13.cell? ⟨gb297,0,none⟩=some (.bool false):=(zad BK297.out 0).trans rfl; have hcz14_1:w13.cell? ⟨gb297,1,none⟩=some (.string (⟨#[]⟩:ByteArray)):=(zad BK297.out 1).trans rfl; have hcz14_2:w13.cell? ⟨gb297,2,none⟩=some (.string (⟨#[]⟩:ByteArray)):=(zad BK297.out 2).trans rfl; have hfz14_0:=zaj BK297.out 0; have hfz14_1:=zaj BK297.out 1; have hfz14_2:=zaj BK297.out 2))
  refine bodyPost_ret (results_cell_row rfl _ _ gb297 28 #[.bool a0,.string t299,.string t301] (0,0) _ rfl (by (with_reducible repeat (first|refine zaf ?_ _|refine zai ?_|refine zag ?_ _)); refine zaw (cs:=#[.bool a0,.string t299,.string (⟨#[]⟩:ByteArray)]) ?_ 2 _ rfl; (with_reducible repeat (first|refine zaf ?_ _|refine zai ?_|refine zag ?_ _)); refine zaw (cs:=#[.bool a0,.string (⟨#[]⟩:ByteArray),.string (⟨#[]⟩:ByteArray)]) ?_ 1 _ rfl; (with_reducible repeat (first|refine zaf ?_ _|refine zai ?_|refine zag ?_ _)); refine zaw (cs:=#[.bool false,.string (⟨#[]⟩:ByteArray),.string (⟨#[]⟩:ByteArray)]) ?_ 0 _ rfl; (with_reducible repeat (first|refine zaf ?_ _|refine zai ?_|refine zag ?_ _)); exact BK297.out) Tryz.underlying28 rfl (by kernel_rfl)) rfl ?_
  exact ⟨by first|rfl|(simp [zan,zam]<;>rfl)|(simp [*,zan,zam]<;>rfl),by repeat (first|(with_reducible first|exact HB.out|apply zab|apply zaa|apply zac|refine zae ?_ GE297.out)|exact HB.out)⟩
noncomputable def c1_FNeg.f (a0_0:Bool) (a0_1:ByteArray) (a0_2:ByteArray):Option (Bool×ByteArray×ByteArray):=if a0_0=true then (some (false,a0_1,a0_2)) else (some ((a0_1.toList != ([48]:List UInt8)),a0_1,a0_2))
theorem c1_FNeg.calls (a0_0:Bool) (a0_1:ByteArray) (a0_2:ByteArray) (r1:Bool) (r2:ByteArray) (r3:ByteArray) (w:World) (h:c1_FNeg.f a0_0 a0_1 a0_2=some (r1,r2,r3)) :
  Calls Tryz.prog 165 #[.agg #[.bool a0_0,.string a0_1,.string a0_2]] w fun e w'=>e = .returned (.agg #[.bool r1,.string r2,.string r3])∧Below w.heap.size w w':=by
 have hu28:=Tryz.underlying28
 have HB:=Aside0.mk (Below.refl w.heap.size w)
 have H:(if a0_0=true then (some (false,a0_1,a0_2)) else (some ((a0_1.toList != ([48]:List UInt8)),a0_1,a0_2)))=some (r1,r2,r3):=h
 clear h
 by_cases c2:a0_0=true
 ·subst c2
  have H1:(some (false,a0_1,a0_2))=some (r1,r2,r3):=by rw [if_pos rfl] at H; exact H
  clear H
  have H:=H1
  clear H1
  simp only [Option.some.injEq,Prod.mk.injEq] at H
  obtain ⟨rfl,rfl,rfl⟩:=H
  go_enter Tryz.func165,Tryz.ntmps165
  go_wp2_with (first|((with_reducible refine zau (N:=1) rfl ?_); refine zas ?hg (N:=1) ?hd (cs:=#[.bool true,.string a0_1,.string a0_2]) (t:=28) ?hr ?_; (case hd=>rfl); (case hg=>rfl); (case hr=>first|(go_simp; done)|(go_simp; rfl)); intro gb303 hg w3 hbox hb; have n0_:=Aside0.mk (zak (by repeat (first|(with_reducible first|exact HB.out|apply zab|apply zaa|apply zac)|exact HB.out)) hb); have n1_:=Aside0.mk (hbox); have n2_:=Aside0.mk ((by rw [hg]; exact (zal (by repeat (first|(with_reducible first|exact HB.out|apply zab|apply zaa|apply zac)|exact HB.out))):w.heap.size≤gb303)); have n3_:=Aside0.mk ((by rw [hg]; exact (zal (by repeat (first|(with_reducible first|exact HB.out|apply zab|apply zaa|apply zac)|exact HB.out))):w.heap.size≤gb303)); clear HB; have HB:=n0_; have BK303:=n1_; have GW303:=n2_; have GE303:=n3_; clear n0_ n1_ n2_ n3_; clear hb hbox hg)|((with_reducible refine zau (N:=2) rfl ?_); refine zas ?hg (N:=2) ?hd (cs:=#[.bool false,.string (⟨#[]⟩:ByteArray),.string (⟨#[]⟩:ByteArray)]) (t:=28) ?hr ?_; (case hd=>rfl); (case hg=>rfl); (case hr=>first|(go_simp; done)|(go_simp; rfl)); intro gb304 hg w4 hbox hb; have n0_:=Aside0.mk (zao (g:=gb303) (o:=.cells #[.bool true,.string a0_1,.string a0_2] 28 (0,0)) (by (with_reducible repeat (first|refine zaf ?_ _|refine zai ?_|refine zag ?_ _)); exact BK303.out) hb); have n1_:=Aside0.mk (zak (by repeat (first|(with_reducible first|exact HB.out|apply zab|apply zaa|apply zac|refine zae ?_ GE303.out)|exact HB.out)) hb); have n2_:=Aside0.mk (hbox); have n3_:=Aside0.mk ((by rw [hg]; exact (zal (by repeat (first|(with_reducible first|exact HB.out|apply zab|apply zaa|apply zac|refine zae ?_ GE303.out)|exact HB.out))):w.heap.size≤gb304)); have n4_:=Aside0.mk ((by rw [hg]; exact (zal (by repeat (first|(with_reducible first|exact HB.out|apply zab|apply zaa|apply zac|refine zae ?_ GE303.out)|exact HB.out))):w.heap.size≤gb304)); have n5_:=Aside0.mk ((by rw [hg]; exact Nat.ne_of_lt (zaz (g:=gb303) (o:=.cells #[.bool true,.string a0_1,.string a0_2] 28 (0,0)) (by (with_reducible repeat (first|refine zaf ?_ _|refine zai ?_|refine zag ?_ _)); exact BK303.out)):gb303≠gb304)); have n6_:=Aside0.mk ((by rw [hg]; exact Nat.ne_of_gt (zaz (g:=gb303) (o:=.cells #[.bool true,.string a0_1,.string a0_2] 28 (0,0)) (by (with_reducible repeat (first|refine zaf ?_ _|refine zai ?_|refine zag ?_ _)); exact BK303.out)):gb304≠gb303)); clear BK303; clear HB; have BK303:=n0_; have HB:=n1_; have BK304:=n2_; have GW304:=n3_; have GE304:=n4_; have NB303_304:=n5_; have NB304_303:=n6_; clear n0_ n1_ n2_ n3_ n4_ n5_ n6_; clear hb hbox hg; have hnb5:=NB303_304.out; have hnc5:=NB304_303.out; have hcz6_0:w4.cell? ⟨gb303,0,none⟩=some (.bool true):=(zad BK303.out 0).trans rfl; have hcz6_1:w4.cell? ⟨gb303,1,none⟩=some (.string a0_1):=(zad BK303.out 1).trans rfl; have hcz6_2:w4.cell? ⟨gb303,2,none⟩=some (.string a0_2):=(zad BK303.out 2).trans rfl; have hfz6_0:=zaj BK303.out 0; have hfz6_1:=zaj BK303.out 1; have hfz6_2:=zaj BK303.out 2; have hcz7_0:w4.cell? ⟨gb304,0,none⟩=some (.bool false):=(zad BK304.out 0).trans rfl; have hcz7_1:w4.cell? ⟨gb304,1,none⟩=some (.string (⟨#[]⟩:ByteArray)):=(zad BK304.out 1).trans rfl; have hcz7_2:w4.cell? ⟨gb304,2,none⟩=some (.string (⟨#[]⟩:ByteArray)):=(zad BK304.out 2).trans rfl; have hfz7_0:=zaj BK304.out 0; have hfz7_1:=zaj BK304.out 1; have hfz7_2:=zaj BK304.out 2))
  refine bodyPost_ret (results_cell_row rfl _ _ gb304 28 #[.bool false,.string a0_1,.string a0_2] (0,0) _ rfl (by (with_reducible repeat (first|refine zaf ?_ _|refine zai ?_|refine zag ?_ _)); refine zaw (cs:=#[.bool false,.string a0_1,.string (⟨#[]⟩:ByteArray)]) ?_ 2 _ rfl; (with_reducible repeat (first|refine zaf ?_ _|refine zai ?_|refine zag ?_ _)); refine zaw (cs:=#[.bool false,.string (⟨#[]⟩:ByteArray),.string (⟨#[]⟩:ByteArray)]) ?_ 1 _ rfl; (with_reducible repeat (first|refine zaf ?_ _|refine zai ?_|refine zag ?_ _)); refine zaw (cs:=#[.bool false,.string (⟨#[]⟩:ByteArray),.string (⟨#[]⟩:ByteArray)]) ?_ 0 _ rfl; (with_reducible repeat (first|refine zaf ?_ _|refine zai ?_|refine zag ?_ _)); refine zcc ?_ NB304_303.out _; (with_reducible repeat (first|refine zaf ?_ _|refine zai ?_|refine zag ?_ _)); exact BK304.out) Tryz.underlying28 rfl (by kernel_rfl)) rfl ?_
  exact ⟨by first|rfl|(simp [zan,zam]<;>rfl)|(simp [*,zan,zam]<;>rfl),by repeat (first|(with_reducible first|exact HB.out|apply zab|apply zaa|apply zac|refine zae ?_ GE303.out|refine zae ?_ GE304.out)|exact HB.out)⟩
 ·replace c2:=Bool.eq_false_iff.mpr c2
  subst c2
  have H1:(some ((a0_1.toList != ([48]:List UInt8)),a0_1,a0_2))=some (r1,r2,r3):=by rw [if_neg (show ¬ (false=true) by decide)] at H; exact H
  clear H
  have H:=H1
  clear H1
  simp only [Option.some.injEq,Prod.mk.injEq] at H
  obtain ⟨rfl,rfl,rfl⟩:=H
  go_enter Tryz.func165,Tryz.ntmps165
  go_wp2_with (first|((with_reducible refine zau (N:=1) rfl ?_); refine zas ?hg (N:=1) ?hd (cs:=#[.bool false,.string a0_1,.string a0_2]) (t:=28) ?hr ?_; (case hd=>rfl); (case hg=>rfl); (case hr=>first|(go_simp; done)|(go_simp; rfl)); intro gb303 hg w8 hbox hb; have n0_:=Aside0.mk (zak (by repeat (first|(with_reducible first|exact HB.out|apply zab|apply zaa|apply zac)|exact HB.out)) hb); have n1_:=Aside0.mk (hbox); have n2_:=Aside0.mk ((by rw [hg]; exact (zal (by repeat (first|(with_reducible first|exact HB.out|apply zab|apply zaa|apply zac)|exact HB.out))):w.heap.size≤gb303)); have n3_:=Aside0.mk ((by rw [hg]; exact (zal (by repeat (first|(with_reducible first|exact HB.out|apply zab|apply zaa|apply zac)|exact HB.out))):w.heap.size≤gb303)); clear HB; have HB:=n0_; have BK303:=n1_; have GW303:=n2_; have GE303:=n3_; clear n0_ n1_ n2_ n3_; clear hb hbox hg)|((with_reducible refine zau (N:=2) rfl ?_); refine zas ?hg (N:=2) ?hd (cs:=#[.bool false,.string (⟨#[]⟩:ByteArray),.string (⟨#[]⟩:ByteArray)]) (t:=28) ?hr ?_; (case hd=>rfl); (case hg=>rfl); (case hr=>first|(go_simp; done)|(go_simp; rfl)); intro gb304 hg w9 hbox hb; have n0_:=Aside0.mk (zao (g:=gb303) (o:=.cells #[.bool false,.string a0_1,.string a0_2] 28 (0,0)) (by (with_reducible repeat (first|refine zaf ?_ _|refine zai ?_|refine zag ?_ _)); exact BK303.out) hb); have n1_:=Aside0.mk (zak (by repeat (first|(with_reducible first|exact HB.out|apply zab|apply zaa|apply zac|refine zae ?_ GE303.out)|exact HB.out)) hb); have n2_:=Aside0.mk (hbox); have n3_:=Aside0.mk ((by rw [hg]; exact (zal (by repeat (first|(with_reducible first|exact HB.out|apply zab|apply zaa|apply zac|refine zae ?_ GE303.out)|exact HB.out))):w.heap.size≤gb304)); have n4_:=Aside0.mk ((by rw [hg]; exact (zal (by repeat (first|(with_reducible first|exact HB.out|apply zab|apply zaa|apply zac|refine zae ?_ GE303.out)|exact HB.out))):w.heap.size≤gb304)); have n5_:=Aside0.mk ((by rw [hg]; exact Nat.ne_of_lt (zaz (g:=gb303) (o:=.cells #[.bool false,.string a0_1,.string a0_2] 28 (0,0)) (by (with_reducible repeat (first|refine zaf ?_ _|refine zai ?_|refine zag ?_ _)); exact BK303.out)):gb303≠gb304)); have n6_:=Aside0.mk ((by rw [hg]; exact Nat.ne_of_gt (zaz (g:=gb303) (o:=.cells #[.bool false,.string a0_1,.string a0_2] 28 (0,0)) (by (with_reducible repeat (first|refine zaf ?_ _|refine zai ?_|refine zag ?_ _)); exact BK303.out)):gb304≠gb303)); clear BK303; clear HB; have BK303:=n0_; have HB:=n1_; have BK304:=n2_; have GW304:=n3_; have GE304:=n4_; have NB303_304:=n5_; have NB304_303:=n6_; clear n0_ n1_ n2_ n3_ n4_ n5_ n6_; clear hb hbox hg; have hnb10:=NB303_304.out; have hnc10:=NB304_303.out; have hcz11_0:w9.cell? ⟨gb303,0,none⟩=some (.bool false):=(zad BK303.out 0).trans rfl; have hcz11_1:w9.cell? ⟨gb303,1,none⟩=some (.string a0_1):=(zad BK303.out 1).trans rfl; have hcz11_2:w9.cell? ⟨gb303,2,none⟩=some (.string a0_2):=(zad BK303.out 2).trans rfl; have hfz11_0:=zaj BK303.out 0; have hfz11_1:=zaj BK303.out 1; have hfz11_2:=zaj BK303.out 2; have hcz12_0:w9.cell? ⟨gb304,0,none⟩=some (.bool false):=(zad BK304.out 0).trans rfl; have hcz12_1:w9.cell? ⟨gb304,1,none⟩=some (.string (⟨#[]⟩:ByteArray)):=(zad BK304.out 1).trans rfl; have hcz12_2:w9.cell? ⟨gb304,2,none⟩=some (.string (⟨#[]⟩:ByteArray)):=(zad BK304.out 2).trans rfl; have hfz12_0:=zaj BK304.out 0; have hfz12_1:=zaj BK304.out 1; have hfz12_2:=zaj BK304.out 2))
  refine bodyPost_ret (results_cell_row rfl _ _ gb304 28 #[.bool (a0_1.toList != ([48]:List UInt8)),.string a0_1,.string a0_2] (0,0) _ rfl (by (with_reducible repeat (first|refine zaf ?_ _|refine zai ?_|refine zag ?_ _)); refine zaw (cs:=#[.bool (a0_1.toList != ([48]:List UInt8)),.string a0_1,.string (⟨#[]⟩:ByteArray)]) ?_ 2 _ rfl; (with_reducible repeat (first|refine zaf ?_ _|refine zai ?_|refine zag ?_ _)); refine zaw (cs:=#[.bool (a0_1.toList != ([48]:List UInt8)),.string (⟨#[]⟩:ByteArray),.string (⟨#[]⟩:ByteArray)]) ?_ 1 _ rfl; (with_reducible repeat (first|refine zaf ?_ _|refine zai ?_|refine zag ?_ _)); refine zaw (cs:=#[.bool false,.string (⟨#[]⟩:ByteArray),.string (⟨#[]⟩:ByteArray)]) ?_ 0 _ rfl; (with_reducible repeat (first|refine zaf ?_ _|refine zai ?_|refine zag ?_ _)); refine zcc ?_ NB304_303.out _; (with_reducible repeat (first|refine zaf ?_ _|refine zai ?_|refine zag ?_ _)); exact BK304.out) Tryz.underlying28 rfl (by kernel_rfl)) rfl ?_
  exact ⟨by first|rfl|(simp [zan,zam]<;>rfl)|(simp [*,zan,zam]<;>rfl),by repeat (first|(with_reducible first|exact HB.out|apply zab|apply zaa|apply zac|refine zae ?_ GE303.out|refine zae ?_ GE304.out)|exact HB.out)⟩
end Go.Proofs.ZQ
end
section
namespace Go.Proofs.ZQ
open Go.RowKit Go.Proofs.ZW.Wa Go.Proofs.ZP Go.Proofs.ZW.Wb Go.Proofs.ZW.Wc
def FcAt (w:World) (b:Nat) (s:Bool) (x y:ByteArray):Prop:=w.heap[b]? = some (.cells #[.bool s,.string x,.string y] 28 (0,0))
theorem FcAt.c0 {w:World} {b:Nat} {s:Bool} {x y:ByteArray} (h:FcAt w b s x y):w.cell? ⟨b,0,none⟩=some (.bool s):=(zad h 0).trans rfl
theorem FcAt.c1 {w:World} {b:Nat} {s:Bool} {x y:ByteArray} (h:FcAt w b s x y):w.cell? ⟨b,1,none⟩=some (.string x):=(zad h 1).trans rfl
theorem FcAt.c2 {w:World} {b:Nat} {s:Bool} {x y:ByteArray} (h:FcAt w b s x y):w.cell? ⟨b,2,none⟩=some (.string y):=(zad h 2).trans rfl
theorem FcAt.below {w w':World} {b:Nat} {s:Bool} {x y:ByteArray} (h:FcAt w b s x y) (hb:Below w.heap.size w w'):FcAt w' b s x y:=(hb.block _ (zaz h)).trans h
theorem FcAt.keep {w w':World} {b n:Nat} {s:Bool} {x y:ByteArray} (h:FcAt w b s x y) (hb:Below n w w') (hn:b<n):FcAt w' b s x y:=(hb.block _ hn).trans h
theorem FcAt.new (w:World) (s:Bool) (x y:ByteArray):FcAt (w.alloc (.cells #[.bool s,.string x,.string y] 28)) w.heap.size s x y:=zaW w _
theorem FcAt.alloc {w:World} {b:Nat} {s:Bool} {x y:ByteArray} (h:FcAt w b s x y) (o:Obj):FcAt (w.alloc o) b s x y:=h.below (zab (Below.refl _ _) _)
theorem zcX {w w2:World} {D:Nat} {s:Bool} {x y:ByteArray} (f:FcAt w2 D s x y) (hb:Below w.heap.size w w2) (hD:w.heap.size≤D) (t:Bool) (u v:ByteArray):FcAt (((w2.setCell ⟨D,0,none⟩ (.bool t)).setCell ⟨D,1,none⟩ (.string u)).setCell ⟨D,2,none⟩ (.string v)) D t u v∧Below w.heap.size w (((w2.setCell ⟨D,0,none⟩ (.bool t)).setCell ⟨D,1,none⟩ (.string u)).setCell ⟨D,2,none⟩ (.string v)):=
 ⟨(zba (zba (zba f 0 (.bool t)) 1 (.string u)) 2 (.string v)).trans rfl,zae (zae (zae hb hD) hD) hD⟩
theorem fc_three (w:World) (s t u:Bool) (a b c d e f:ByteArray):FcAt (((w.alloc (.cells #[.bool s,.string a,.string b] 28)).alloc (.cells #[.bool t,.string c,.string d] 28)).alloc (.cells #[.bool u,.string e,.string f] 28)) w.heap.size s a b ∧
  FcAt (((w.alloc (.cells #[.bool s,.string a,.string b] 28)).alloc (.cells #[.bool t,.string c,.string d] 28)).alloc (.cells #[.bool u,.string e,.string f] 28)) (w.heap.size+1) t c d ∧
  FcAt (((w.alloc (.cells #[.bool s,.string a,.string b] 28)).alloc (.cells #[.bool t,.string c,.string d] 28)).alloc (.cells #[.bool u,.string e,.string f] 28)) (w.heap.size+1+1) u e f ∧
  Below w.heap.size w (((w.alloc (.cells #[.bool s,.string a,.string b] 28)).alloc (.cells #[.bool t,.string c,.string d] 28)).alloc (.cells #[.bool u,.string e,.string f] 28)):=by
 refine ⟨((FcAt.new w s a b).alloc _).alloc _,?_,?_,zab (zab (zab (Below.refl _ _) _) _) _⟩
 ·have h:=(FcAt.new (w.alloc (.cells #[.bool s,.string a,.string b] 28)) t c d).alloc (.cells #[.bool u,.string e,.string f] 28)
  rw [World.size_alloc] at h
  exact h
 ·have h:=FcAt.new ((w.alloc (.cells #[.bool s,.string a,.string b] 28)).alloc (.cells #[.bool t,.string c,.string d] 28)) u e f
  rw [World.size_alloc,World.size_alloc] at h
  exact h
noncomputable def c1_FAdd.f (a0_0:Bool) (a0_1:ByteArray) (a0_2:ByteArray) (a1_0:Bool) (a1_1:ByteArray) (a1_2:ByteArray):Option (Bool×ByteArray×ByteArray):=(c1_Times.f a0_1 a1_2).bind fun t601=>((c1_Times.f a1_1 a0_2).bind fun t602=>((c1_Times.f a0_2 a1_2).bind fun t603=>(if (a0_0 == a1_0)=true then ((c1_Plus.f t601 t602).bind fun t604=>((c1_low.f a0_0 t604 t603).bind fun bt605=>(some (bt605.1,bt605.2.1,bt605.2.2)))) else ((c1_Compare.f t601 t602).bind fun t608=>(if t608≥0 then ((c1_Minus.f t601 t602).bind fun t609=>((c1_low.f a0_0 t609 t603).bind fun bt610=>(some (bt610.1,bt610.2.1,bt610.2.2)))) else ((c1_Minus.f t602 t601).bind fun t613=>((c1_low.f a1_0 t613 t603).bind fun bt614=>(some (bt614.1,bt614.2.1,bt614.2.2)))))))))
theorem c1_FAdd.calls (a0_0:Bool) (a0_1:ByteArray) (a0_2:ByteArray) (a1_0:Bool) (a1_1:ByteArray) (a1_2:ByteArray) (r1:Bool) (r2:ByteArray) (r3:ByteArray) (w:World) (h:c1_FAdd.f a0_0 a0_1 a0_2 a1_0 a1_1 a1_2=some (r1,r2,r3)) :
  Calls Tryz.prog 164 #[.agg #[.bool a0_0,.string a0_1,.string a0_2],.agg #[.bool a1_0,.string a1_1,.string a1_2]] w fun e w'=>e = .returned (.agg #[.bool r1,.string r2,.string r3])∧Below w.heap.size w w':=by
 unfold c1_FAdd.f at h
 obtain ⟨x,hx,h2⟩:=Option.bind_eq_some_iff.1 h
 obtain ⟨y,hy,h3⟩:=Option.bind_eq_some_iff.1 h2
 obtain ⟨d,hd,h4⟩:=Option.bind_eq_some_iff.1 h3
 have HX:=Lib.hid (fun W=>c1_Times.calls a0_1 a1_2 x W hx)
 have HY:=Lib.hid (fun W=>c1_Times.calls a1_1 a0_2 y W hy)
 have HD:=Lib.hid (fun W=>c1_Times.calls a0_2 a1_2 d W hd)
 have H:=Lib.hid h4
 clear h h2 h3 h4 hx hy hd
 go_enter Tryz.func164,Tryz.ntmps164
 obtain ⟨fa,fb,fr,hba⟩:=fc_three w a0_0 a1_0 false a0_1 a0_2 a1_1 a1_2 ⟨#[]⟩ ⟨#[]⟩
 go_wp2_with fail
 generalize (((w.alloc (.cells #[.bool a0_0,.string a0_1,.string a0_2] 28)).alloc (.cells #[.bool a1_0,.string a1_1,.string a1_2] 28)).alloc (.cells #[.bool false,.string ⟨#[]⟩,.string ⟨#[]⟩] 28))=W0 at *
 generalize hBx:w.heap.size+1=X0 at *
 generalize hBe:X0+1=B0 at *
 have HBE:=Lib.hid (show w.heap.size≤B0 by omega)
 have HLT:=Lib.hid (show w.heap.size<B0∧X0<B0 by omega)
 have HK:=Lib.hid (show ∀ W':World,Below W0.heap.size W0 W'→W'.cell? ⟨w.heap.size,1,none⟩=some (.string a0_1)∧W'.cell? ⟨w.heap.size,2,none⟩=some (.string a0_2)∧W'.cell? ⟨X0,1,none⟩=some (.string a1_1)∧W'.cell? ⟨X0,2,none⟩=some (.string a1_2) from fun W' h=>⟨(fa.below h).c1,(fa.below h).c2,(fb.below h).c1,(fb.below h).c2⟩)
 clear hBe hBx
 have HLE:=Lib.hid (show B0≤W0.heap.size from Nat.le_of_lt (zaz fr))
 have HFA:=Lib.hid fa
 have HFB:=Lib.hid fb
 have HFR:=Lib.hid fr
 have HBA:=Lib.hid hba
 clear fa fb fr hba
 have p1:=HFA.out.c1
 have p2:=HFB.out.c2
 go_wp2_with fail
 refine (HX.out _).mono ?_
 rintro e w1 ⟨rfl,hb1⟩
 clear p1 p2
 have p1:=(HFB.out.below hb1).c1
 have p2:=(HFA.out.below hb1).c2
 go_wp2_with fail
 refine (HY.out _).mono ?_
 rintro e w2 ⟨rfl,hb2⟩
 clear p1 p2
 have p1:=(HFA.out.below (bthen hb1 hb2)).c2
 have p2:=(HFB.out.below (bthen hb1 hb2)).c2
 go_wp2_with fail
 refine (HD.out _).mono ?_
 rintro e w3 ⟨rfl,hb3⟩
 clear p1 p2
 have HB3:=Lib.hid (bthen (bthen hb1 hb2) hb3)
 clear hb1 hb2 hb3 HX HY HD HK
 have q0:=(HFA.out.below HB3.out).c0
 have q1:=(HFB.out.below HB3.out).c0
 have HQ:=Lib.hid (show ∀ W':World,Below W0.heap.size W0 W'→W'.cell? ⟨w.heap.size,0,none⟩=some (.bool a0_0)∧W'.cell? ⟨X0,0,none⟩=some (.bool a1_0) from fun W' h=>⟨(HFA.out.below h).c0,(HFB.out.below h).c0⟩)
 have HQS:=Lib.hid (show ∀ (W':World) (u v t:Value),Below W0.heap.size W0 W'→(((W'.setCell ⟨B0,0,none⟩ u).setCell ⟨B0,1,none⟩ v).setCell ⟨B0,2,none⟩ t).cell? ⟨w.heap.size,0,none⟩=some (.bool a0_0)∧(((W'.setCell ⟨B0,0,none⟩ u).setCell ⟨B0,1,none⟩ v).setCell ⟨B0,2,none⟩ t).cell? ⟨X0,0,none⟩=some (.bool a1_0) from fun W' u v t h =>
  have k:=Below.setCell (p:=⟨B0,2,none⟩) (Below.setCell (p:=⟨B0,1,none⟩) (Below.setCell (p:=⟨B0,0,none⟩) (h.mono HLE.out) (Nat.le_refl _) u) (Nat.le_refl _) v) (Nat.le_refl _) t
  ⟨(HFA.out.keep k HLT.out.1).c0,(HFB.out.keep k HLT.out.2).c0⟩)
 by_cases hs:(a0_0 == a1_0)=true
 ·obtain ⟨t,ht,h⟩:=Option.bind_eq_some_iff.1 ((if_pos hs).symm.trans H.out)
  obtain ⟨⟨l0,l1,l2⟩,hl,h⟩:=Option.bind_eq_some_iff.1 h
  cases h
  have HT:=Lib.hid (fun W=>c1_Plus.calls x y t W ht)
  have HL:=Lib.hid (fun W=>c1_low.calls a0_0 t d l0 l1 l2 W hl)
  clear ht hl H
  go_wp2_with fail
  go_region_held3 (fun w'=>w'.cell? ⟨w.heap.size,0,none⟩=some (.bool a0_0)∧w'.cell? ⟨X0,0,none⟩=some (.bool a1_0))
   (first|(with_reducible refine HQS.out _ _ _ _ ?_; repeat (with_reducible first|exact Below.refl _ _|exact HB3.out|apply zar|apply zaa|refine bthen ?_ hb5|refine bthen ?_ hb4|refine bthen ?_ hb6))|(with_reducible refine HQ.out _ ?_; repeat (with_reducible first|exact Below.refl _ _|exact HB3.out|apply zar|apply zaa|refine bthen ?_ hb5|refine bthen ?_ hb4|refine bthen ?_ hb6)))
   ((first
    | (go_simp; go_at_call 129; refine (HT.out _).mono ?_; rintro e w4 ⟨rfl,hb4⟩)
    | (go_simp; go_at_call 163; refine (HL.out _).mono ?_; rintro e w5 ⟨rfl,hb5⟩; have fr5:=HFR.out.below (show Below W0.heap.size W0 w5 from (by repeat (with_reducible first|exact Below.refl _ _|exact HB3.out|apply zar|apply zaa|refine bthen ?_ hb5|refine bthen ?_ hb4|refine bthen ?_ hb6))); have cB0:=fr5.c0; have cB1:=fr5.c1; have cB2:=fr5.c2; have fB0:=zaj fr5 0; have fB1:=zaj fr5 1; have fB2:=zaj fr5 2)))
  have hs1:=zba fr5 0 (.bool l0)
  have hs2:=zba hs1 1 (.string l1)
  have hs3:=zba hs2 2 (.string l2)
  have HS3:=Lib.hid (hs3.trans (show _=some (Obj.cells #[.bool l0,.string l1,.string l2] 28 (0,0)) from rfl))
  have HBF:=Lib.hid (zae (zae (zae (g:=B0) (j:=0) (v:=.bool l0) (bthen HBA.out (show Below W0.heap.size W0 w5 from (by repeat (with_reducible first|exact Below.refl _ _|exact HB3.out|apply zar|apply zaa|refine bthen ?_ hb5|refine bthen ?_ hb4|refine bthen ?_ hb6)))) HBE.out) (j:=1) (v:=.string l1) (g:=B0) HBE.out) (j:=2) (v:=.string l2) (g:=B0) HBE.out)
  clear hs1 hs2 hs3 fr5 cB0 cB1 cB2 fB0 fB1 fB2 hb4 hb5
  go_wp2
  refine bodyPost_ret (results_cell_row rfl _ _ B0 28 #[.bool l0,.string l1,.string l2] (0,0) _ rfl HS3.out Tryz.underlying28 rfl (by kernel_rfl)) rfl ?_
  exact ⟨rfl,HBF.out⟩
 ·obtain ⟨c,hc,h⟩:=Option.bind_eq_some_iff.1 ((if_neg hs).symm.trans H.out)
  have HCc:=Lib.hid (fun W=>c1_Compare.calls x y c W hc)
  have hs':(a0_0 == a1_0)=false:=by simpa using hs
  clear hc hs H
  go_wp2_with fail
  refine (HCc.out _).mono ?_
  rintro e w6 ⟨rfl,hb6⟩
  by_cases hg:c≥0
  ·obtain ⟨t,ht,h⟩:=Option.bind_eq_some_iff.1 ((if_pos hg).symm.trans h)
   obtain ⟨⟨l0,l1,l2⟩,hl,h⟩:=Option.bind_eq_some_iff.1 h
   cases h
   have HT:=Lib.hid (fun W=>c1_Minus.calls x y t W ht)
   have HL:=Lib.hid (fun W=>c1_low.calls a0_0 t d l0 l1 l2 W hl)
   clear ht hl HCc
   go_wp2_with fail
   go_region_held3 (fun w'=>w'.cell? ⟨w.heap.size,0,none⟩=some (.bool a0_0)∧w'.cell? ⟨X0,0,none⟩=some (.bool a1_0))
    (first|(with_reducible refine HQS.out _ _ _ _ ?_; repeat (with_reducible first|exact Below.refl _ _|exact HB3.out|apply zar|apply zaa|refine bthen ?_ hb5|refine bthen ?_ hb4|refine bthen ?_ hb6))|(with_reducible refine HQ.out _ ?_; repeat (with_reducible first|exact Below.refl _ _|exact HB3.out|apply zar|apply zaa|refine bthen ?_ hb5|refine bthen ?_ hb4|refine bthen ?_ hb6)))
    ((first
     | (go_simp; go_at_call 130; refine (HT.out _).mono ?_; rintro e w4 ⟨rfl,hb4⟩)
     | (go_simp; go_at_call 163; refine (HL.out _).mono ?_; rintro e w5 ⟨rfl,hb5⟩; have fr5:=HFR.out.below (show Below W0.heap.size W0 w5 from (by repeat (with_reducible first|exact Below.refl _ _|exact HB3.out|apply zar|apply zaa|refine bthen ?_ hb5|refine bthen ?_ hb4|refine bthen ?_ hb6))); have cB0:=fr5.c0; have cB1:=fr5.c1; have cB2:=fr5.c2; have fB0:=zaj fr5 0; have fB1:=zaj fr5 1; have fB2:=zaj fr5 2)))
   have hs1:=zba fr5 0 (.bool l0)
   have hs2:=zba hs1 1 (.string l1)
   have hs3:=zba hs2 2 (.string l2)
   have HS3:=Lib.hid (hs3.trans (show _=some (Obj.cells #[.bool l0,.string l1,.string l2] 28 (0,0)) from rfl))
   have HBF:=Lib.hid (zae (zae (zae (g:=B0) (j:=0) (v:=.bool l0) (bthen HBA.out (show Below W0.heap.size W0 w5 from (by repeat (with_reducible first|exact Below.refl _ _|exact HB3.out|apply zar|apply zaa|refine bthen ?_ hb5|refine bthen ?_ hb4|refine bthen ?_ hb6)))) HBE.out) (j:=1) (v:=.string l1) (g:=B0) HBE.out) (j:=2) (v:=.string l2) (g:=B0) HBE.out)
   clear hs1 hs2 hs3 fr5 cB0 cB1 cB2 fB0 fB1 fB2 hb4 hb5
   go_wp2
   refine bodyPost_ret (results_cell_row rfl _ _ B0 28 #[.bool l0,.string l1,.string l2] (0,0) _ rfl HS3.out Tryz.underlying28 rfl (by kernel_rfl)) rfl ?_
   exact ⟨rfl,HBF.out⟩
  ·obtain ⟨t,ht,h⟩:=Option.bind_eq_some_iff.1 ((if_neg hg).symm.trans h)
   obtain ⟨⟨l0,l1,l2⟩,hl,h⟩:=Option.bind_eq_some_iff.1 h
   cases h
   have HT:=Lib.hid (fun W=>c1_Minus.calls y x t W ht)
   have HL:=Lib.hid (fun W=>c1_low.calls a1_0 t d l0 l1 l2 W hl)
   clear ht hl HCc
   go_wp2_with fail
   go_region_held3 (fun w'=>w'.cell? ⟨w.heap.size,0,none⟩=some (.bool a0_0)∧w'.cell? ⟨X0,0,none⟩=some (.bool a1_0))
    (first|(with_reducible refine HQS.out _ _ _ _ ?_; repeat (with_reducible first|exact Below.refl _ _|exact HB3.out|apply zar|apply zaa|refine bthen ?_ hb5|refine bthen ?_ hb4|refine bthen ?_ hb6))|(with_reducible refine HQ.out _ ?_; repeat (with_reducible first|exact Below.refl _ _|exact HB3.out|apply zar|apply zaa|refine bthen ?_ hb5|refine bthen ?_ hb4|refine bthen ?_ hb6)))
    ((first
     | (go_simp; go_at_call 130; refine (HT.out _).mono ?_; rintro e w4 ⟨rfl,hb4⟩)
     | (go_simp; go_at_call 163; refine (HL.out _).mono ?_; rintro e w5 ⟨rfl,hb5⟩; have fr5:=HFR.out.below (show Below W0.heap.size W0 w5 from (by repeat (with_reducible first|exact Below.refl _ _|exact HB3.out|apply zar|apply zaa|refine bthen ?_ hb5|refine bthen ?_ hb4|refine bthen ?_ hb6))); have cB0:=fr5.c0; have cB1:=fr5.c1; have cB2:=fr5.c2; have fB0:=zaj fr5 0; have fB1:=zaj fr5 1; have fB2:=zaj fr5 2)))
   have hs1:=zba fr5 0 (.bool l0)
   have hs2:=zba hs1 1 (.string l1)
   have hs3:=zba hs2 2 (.string l2)
   have HS3:=Lib.hid (hs3.trans (show _=some (Obj.cells #[.bool l0,.string l1,.string l2] 28 (0,0)) from rfl))
   have HBF:=Lib.hid (zae (zae (zae (g:=B0) (j:=0) (v:=.bool l0) (bthen HBA.out (show Below W0.heap.size W0 w5 from (by repeat (with_reducible first|exact Below.refl _ _|exact HB3.out|apply zar|apply zaa|refine bthen ?_ hb5|refine bthen ?_ hb4|refine bthen ?_ hb6)))) HBE.out) (j:=1) (v:=.string l1) (g:=B0) HBE.out) (j:=2) (v:=.string l2) (g:=B0) HBE.out)
   clear hs1 hs2 hs3 fr5 cB0 cB1 cB2 fB0 fB1 fB2 hb4 hb5
   go_wp2
   refine bodyPost_ret (results_cell_row rfl _ _ B0 28 #[.bool l0,.string l1,.string l2] (0,0) _ rfl HS3.out Tryz.underlying28 rfl (by kernel_rfl)) rfl ?_
   exact ⟨rfl,HBF.out⟩
end Go.Proofs.ZQ
end
