/- Texts under the proof, joined by a program (prune.py): HBase, HPut, HInt1, HInt2, WLast, WTab, WApart, WArr, WFoot, WKept. -/
import Derived.Below
import Derived.OwnWalk
import Derived.RowKit3
import Derived.Deep.Draws
import Derived.Test.YtocfocjfdpegmaaGreatDoorCRatParses00
import Derived.Test.YtocfocjfdpegmaaGreatDoorProg
import Derived.WalkKit
import Derived.WalkLawsBesides
import Derived.WalkSpells
import Derived.Lib.Hide
import Derived.KernelRfl
import Derived.Deep.LoopGhost
import Derived.Deep.QuietTactic
import Derived.BigQuiet
import Derived.Deep.RegionHeld3
import Derived.Lib.LazyBuf
import Derived.RegionCalls
import Derived.Deep.RegionWith
import Derived.OrdersHeld
import Derived.Laws.BitsLemmas
import Derived.RowKit
set_option linter.unusedVariables false
set_option linter.unusedSimpArgs false
set_option exponentiation.threshold 20001
set_option maxHeartbeats 8000000
set_option maxRecDepth 100000
section
namespace Go.Proofs.ZP
open Go.RowKit Go.Proofs.ZW.Wa
def val:List Int→Int
 | []=>0
 | x :: xs=>x+4294967296*val xs
def Wd (ws:List Int):Prop:=∀ u∈ws,0≤u∧u<4294967296
theorem Wd.nil:Wd []:=fun u h=>by cases h
theorem Wd.cons {x:Int} {xs:List Int} (h0:0≤x) (h1:x<4294967296) (h:Wd xs):Wd (x :: xs):=fun u hu=>by
 rcases List.mem_cons.1 hu with rfl|hu
 ·exact ⟨h0,h1⟩
 ·exact h u hu
theorem Wd.tail {x:Int} {xs:List Int} (h:Wd (x :: xs)):Wd xs:=fun u hu=>h u (List.mem_cons_of_mem _ hu)
theorem Wd.head {x:Int} {xs:List Int} (h:Wd (x :: xs)):0≤x∧x<4294967296:=h x List.mem_cons_self
theorem Wd.append {xs ys:List Int} (h:Wd xs) (k:Wd ys):Wd (xs++ys):=fun u hu=>(List.mem_append.1 hu).elim (h u) (k u)
theorem Wd.take {xs:List Int} (h:Wd xs) (n:Nat):Wd (xs.take n):=fun u hu=>h u (List.mem_of_mem_take hu)
theorem Wd.drop {xs:List Int} (h:Wd xs) (n:Nat):Wd (xs.drop n):=fun u hu=>h u (List.mem_of_mem_drop hu)
theorem Wd.rd {xs:List Int} (h:Wd xs) (i:Int):0≤rd xs i∧rd xs i<4294967296:=by
 unfold Go.Proofs.ZW.Wa.rd
 rw [List.getD_eq_getElem?_getD]
 rcases Nat.lt_or_ge i.toNat xs.length with hi|hi
 ·rw [List.getElem?_eq_getElem hi]; exact h _ (List.getElem_mem hi)
 ·rw [List.getElem?_eq_none hi]; exact ⟨by decide,by decide⟩
theorem zap {xs:List Int} (h:Wd xs):0≤val xs:=by
 induction xs with
 | nil=>exact Int.le_refl _
 | cons x xs ih=>have:=ih h.tail; have:=h.head; simp only [val]; omega
theorem za0 (xs ys:List Int):val (xs++ys)=val xs+4294967296^xs.length*val ys:=by
 induction xs with
 | nil=>simp [val]
 | cons x xs ih=>simp only [List.cons_append,val,ih,List.length_cons,Int.pow_succ]; rw [Int.mul_add,Int.mul_comm (4294967296^xs.length) 4294967296,Int.mul_assoc]; omega
theorem zbH {xs:List Int} (h:Wd xs):val xs<4294967296^xs.length:=by
 induction xs with
 | nil=>simp [val]
 | cons x xs ih=>have:=ih h.tail; have:=h.head; simp only [val,List.length_cons,Int.pow_succ]; omega
theorem val_zeros (n:Nat):val (List.replicate n 0)=0:=by
 induction n with
 | zero=>rfl
 | succ n ih=>simp [List.replicate_succ,val,ih]
structure Norm (neg:Bool) (ws:List Int) (x:Int):Prop where
 wd:Wd ws
 top:ws.getLast? ≠ some 0
 pos:ws = []→neg=false
 eq:x=if neg then-val ws else val ws
theorem Norm.abs {neg:Bool} {ws:List Int} {x:Int} (h:Norm neg ws x):(x.natAbs:Int)=val ws:=by
 have:=zap h.wd
 have:=h.eq
 split at this<;>omega
theorem val_pos {ws:List Int} (h:Wd ws) (ht:ws.getLast? ≠ some 0) (hn:ws ≠ []):4294967296^(ws.length-1)≤val ws:=by
 obtain ⟨ys,y,rfl⟩:∃ ys y,ws=ys ++ [y]:=⟨ws.dropLast,ws.getLast hn,(List.dropLast_concat_getLast hn).symm⟩
 have hy:y≠0:=by simpa using ht
 have h1:=h y (by simp)
 have h2:=zap (fun u hu=>h u (List.mem_append_left _ hu):Wd ys)
 rw [za0]
 simp only [val,List.length_append,List.length_singleton,Nat.add_sub_cancel]
 have h3:(4294967296:Int)^ys.length*1≤4294967296^ys.length*(y+4294967296*0):=Int.mul_le_mul_of_nonneg_left (by omega) (Int.pow_nonneg (by decide))
 omega
theorem Norm.nil_iff {neg:Bool} {ws:List Int} {x:Int} (h:Norm neg ws x):ws = []↔x=0:=by
 constructor
 ·rintro rfl
  have:=h.eq
  simpa [val] using this
 ·intro hx
  apply Classical.byContradiction
  intro hn
  have h1:=val_pos h.wd h.top hn
  have h2:(0:Int)<4294967296^(ws.length-1):=Int.pow_pos (by decide)
  have:=h.abs
  subst hx
  simp at this
  omega
theorem Norm.neg_iff {neg:Bool} {ws:List Int} {x:Int} (h:Norm neg ws x):neg=true↔x<0:=by
 have h0:=zap h.wd
 have he:=h.eq
 constructor
 ·rintro rfl
  have hn:ws ≠ []:=fun e=>by have:=h.pos e; cases this
  have:x≠0:=fun e=>hn (h.nil_iff.2 e)
  simp only [if_true] at he
  omega
 ·intro hx
  cases neg with
  | true=>rfl
  | false=>rw [if_neg (by decide)] at he; omega
theorem Norm.val_eq {neg:Bool} {ws:List Int} {x:Int} (h:Norm neg ws x):val ws=(x.natAbs:Int):=h.abs.symm
theorem Norm.len {neg:Bool} {ws:List Int} {x:Int} (h:Norm neg ws x) {n m:Nat} (hx:x.natAbs<2^m) (hm:m≤32*n):ws.length≤n:=by
 apply Classical.byContradiction
 intro hn
 have hne:ws ≠ []:=fun e=>by subst e; simp at hn
 have h1:=val_pos h.wd h.top hne
 rw [h.val_eq] at h1
 have h2:(2:Nat)^(32*n)≤4294967296^(ws.length-1):=by
  rw [Nat.pow_mul]; exact Nat.pow_le_pow_right (by decide) (by omega)
 have h4:(2:Nat)^m≤2^(32*n):=Nat.pow_le_pow_right (by decide) hm
 have h3:((4294967296:Nat):Int)^(ws.length-1)≤(x.natAbs:Int):=h1
 rw [←Int.natCast_pow] at h3
 omega
structure WAt (w:World) (A:Option Addr) (c:Nat) (ws:List Int):Prop where
 le:ws.length≤c
 row:Kd.C (Kd.int .u32) w A ws.length ws
 typ:∀ ad,A=some ad→∃ cs,w.heap[ad.block]? = some (.cells cs 144 (0,0))
theorem WAt.nil (w:World):WAt w none 0 []:=⟨Nat.le_refl _,Kd.C_nil _ _,fun _ h=>by cases h⟩
theorem WAt.of_R {w:World} {base:Nat} {ok:Nat→Prop} {v:Value} {ws:List Int} (h:Kd.R (Kd.int .u32) 144 w base ok v ws):∃ A c,v = .slice A ws.length c∧WAt w A c ws:=by
 obtain ⟨A,c,rfl,hl,hr⟩:=Kd.R_reads h
 refine ⟨A,c,rfl,hl,hr,fun ad he => ?_⟩
 subst he
 exact Kd.R_typed h ad.block (by
  obtain ⟨inner,ho⟩:=Kd.R_own h
  rcases ho.2 with ⟨hv,_⟩|⟨g,cap',cur,hv,_⟩
  ·cases hv
  ·injection hv with ha _ _
   injection ha with ha
   subst ha
   simp [Value.ownBlock])
structure Upd (w w':World) (b lo hi:Nat):Prop where
 os:w'.os=w.os
 tape:w'.tape=w.tape
 output:w'.output=w.output
 size:w.heap.size≤w'.heap.size
 other:∀ k,k<w.heap.size→k≠b→w'.heap[k]? = w.heap[k]?
 word:∀ (k:Nat) (cs:Array Value),w.heap[k]? = some (.cells cs 144 (0,0))→w'.heap[k]? = w.heap[k]?
 same:∀ (cs:Array Value) (t:TypeId),w.heap[b]? = some (.cells cs t (0,0))→∃ cs':Array Value,w'.heap[b]? = some (.cells cs' t (0,0))∧cs'.size=cs.size∧∀ j,(j<lo∨hi≤j)→cs'[j]? = cs[j]?
theorem Upd.of_below {w w':World} (h:Below w.heap.size w w') (b lo hi:Nat):Upd w w' b lo hi where
 os:=h.os
 tape:=h.tape
 output:=h.output
 size:=h.size
 other:=fun k hk _=>h.block k hk
 word:=fun k cs hk=>h.block k (zas hk)
 same:=fun cs t hb=>⟨cs,(h.block b (zas hb)).trans hb,rfl,fun _ _=>rfl⟩
theorem Upd.refl (w:World) (b lo hi:Nat):Upd w w b lo hi:=Upd.of_below (Below.refl _ _) b lo hi
theorem Upd.trans {w w1 w2:World} {b lo hi:Nat} (h:Upd w w1 b lo hi) (k:Upd w1 w2 b lo hi):Upd w w2 b lo hi where
 os:=k.os.trans h.os
 tape:=k.tape.trans h.tape
 output:=k.output.trans h.output
 size:=Nat.le_trans h.size k.size
 other:=fun i hi_ hne=>(k.other i (Nat.lt_of_lt_of_le hi_ h.size) hne).trans (h.other i hi_ hne)
 word:=fun i cs hc=>(k.word i cs ((h.word i cs hc).trans hc)).trans (h.word i cs hc)
 same:=fun cs t hb=>by
  obtain ⟨c1,h1,s1,e1⟩:=h.same cs t hb
  obtain ⟨c2,h2,s2,e2⟩:=k.same c1 t h1
  exact ⟨c2,h2,s2.trans s1,fun j hj=>(e2 j hj).trans (e1 j hj)⟩
theorem Upd.mono {w w1:World} {b lo hi lo' hi':Nat} (h:Upd w w1 b lo hi) (h1:lo'≤lo) (h2:hi≤hi'):Upd w w1 b lo' hi' where
 os:=h.os
 tape:=h.tape
 output:=h.output
 size:=h.size
 other:=h.other
 word:=h.word
 same:=fun cs t hb=>by
  obtain ⟨c1,h3,s1,e1⟩:=h.same cs t hb
  exact ⟨c1,h3,s1,fun j hj=>e1 j (by omega)⟩
theorem Upd.tmp {w w1 w2:World} {b lo hi g lo' hi':Nat} (h:Upd w w1 b lo hi) (k:Upd w1 w2 g lo' hi') (hg:w.heap.size≤g) (hb:b<w.heap.size):Upd w w2 b lo hi where
 os:=k.os.trans h.os
 tape:=k.tape.trans h.tape
 output:=k.output.trans h.output
 size:=Nat.le_trans h.size k.size
 other:=fun i hi_ hne=>(k.other i (Nat.lt_of_lt_of_le hi_ h.size) (by omega)).trans (h.other i hi_ hne)
 word:=fun i cs hc=>(k.word i cs ((h.word i cs hc).trans hc)).trans (h.word i cs hc)
 same:=fun cs t hb'=>by
  obtain ⟨c1,h1,s1,e1⟩:=h.same cs t hb'
  exact ⟨c1,(k.other b (by have:=h.size; omega) (by omega)).trans h1,s1,e1⟩
theorem Upd.below_tmp {w0 w w':World} {g lo hi:Nat} (h:Below w0.heap.size w0 w) (k:Upd w w' g lo hi) (hg:w0.heap.size≤g):Below w0.heap.size w0 w' where
 os:=k.os.trans h.os
 tape:=k.tape.trans h.tape
 output:=k.output.trans h.output
 size:=Nat.le_trans h.size k.size
 block:=fun i hi_=>(k.other i (Nat.lt_of_lt_of_le hi_ h.size) (by omega)).trans (h.block i hi_)
theorem Upd.drewN {w w':World} {b lo hi:Nat} (h:Upd w w' b lo hi) (n:Nat):Upd w (w'.drewN n) b lo hi:=h.trans (Upd.of_below (zab (Below.refl _ _) n) _ _ _)
theorem Upd.alloc {w w':World} {b lo hi:Nat} (h:Upd w w' b lo hi) (o:Obj):Upd w (w'.alloc o) b lo hi:=h.trans (Upd.of_below (zaa (Below.refl _ _) o) _ _ _)
theorem Upd.set (w:World) {b lo hi j t:Nat} {cs:Array Value} (hb:w.heap[b]? = some (.cells cs t (0,0))) (ht:t≠144) (h1:lo≤j) (h2:j<hi) (u:Value):Upd w (w.setCell ⟨b,j,none⟩ u) b lo hi where
 os:=rfl
 tape:=rfl
 output:=rfl
 size:=by simp [World.setCell]
 other:=fun k _ hne=>Below.heap_setCell w ⟨b,j,none⟩ u k hne
 word:=fun k cs' hk=>Below.heap_setCell w ⟨b,j,none⟩ u k (by
  rintro rfl
  rw [hb] at hk
  injection hk with hk
  injection hk with _ hk
  exact ht hk)
 same:=fun cs' t' hk=>by
  rw [hb] at hk
  injection hk with hk
  injection hk with e1 e2
  subst e1; subst e2
  exact ⟨_,zav hb j u,by simp,fun i hi_=>Array.getElem?_setIfInBounds_ne (by omega)⟩
theorem WAt.upd {w w':World} {A:Option Addr} {c:Nat} {ws:List Int} {b lo hi:Nat} (h:WAt w A c ws) (k:Upd w w' b lo hi):WAt w' A c ws where
 le:=h.le
 row:=⟨h.row.1,h.row.2.1,fun hn=>by
  obtain ⟨ad,he,hc⟩:=h.row.2.2 hn
  obtain ⟨cs,hb⟩:=h.typ ad he
  refine ⟨ad,he,fun j p hp => ?_⟩
  obtain ⟨c',h1,h2,h3⟩:=hc j p hp
  refine ⟨c',h1,h2,fun i u hu => ?_⟩
  rw [←h3 i u hu]
  exact World.cell?_of_block (w:=w) (by rw [zc0]; exact k.word _ _ hb)⟩
 typ:=fun ad he=>by
  obtain ⟨cs,hb⟩:=h.typ ad he
  exact ⟨cs,(k.word _ _ hb).trans hb⟩
theorem WAt.below {w w':World} {A:Option Addr} {c:Nat} {ws:List Int} (h:WAt w A c ws) (k:Below w.heap.size w w'):WAt w' A c ws:=h.upd (Upd.of_below k 0 0 0)
theorem WAt.cell {w:World} {ad:Addr} {c:Nat} {ws:List Int} (h:WAt w (some ad) c ws) {j:Nat} (hj:j<ws.length):w.cell? (ad.add j)=some (.int .u32 (ws.getD j 0)):=by
 obtain ⟨ad',he,hc⟩:=h.row.2.2 (by omega)
 injection he with he
 subst he
 obtain ⟨cs,h1,h2,h3⟩:=hc j _ (List.getElem?_eq_getElem hj)
 have h2':cs = [Value.int .u32 ws[j]]:=h2
 subst h2'
 have:=h3 0 _ rfl
 simp only [Nat.add_zero] at this
 have e:j*(Kd.int .u32).sz=j:=Nat.mul_one j
 rw [e] at this
 rw [this,List.getD_eq_getElem?_getD,List.getElem?_eq_getElem hj]; rfl
theorem WAt.ptr {w:World} {A:Option Addr} {c:Nat} {ws:List Int} (h:WAt w A c ws) (hn:0<ws.length):∃ ad,A=some ad:=by
 obtain ⟨ad,he,_⟩:=h.row.2.2 hn
 exact ⟨ad,he⟩
theorem WAt.lmax {w:World} {A:Option Addr} {c:Nat} {ws:List Int} (h:WAt w A c ws):ws.length≤9223372036854775807:=h.row.2.1
theorem WAt.take {w:World} {A:Option Addr} {c:Nat} {ws:List Int} (h:WAt w A c ws) (n:Nat) (hn:n≤ws.length):WAt w A c (ws.take n) where
 le:=by rw [List.length_take]; have:=h.le; omega
 row:=Kd.C_take h.row hn
 typ:=h.typ
def Slot (w:World) (b o:Nat):Prop:=∃ (cs:Array Value) (t:TypeId),w.heap[b]? = some (.cells cs t (0,0))∧o+2≤cs.size∧t≠144
structure IntAt (w:World) (b o:Nat) (x:Int):Prop where
 slot:Slot w b o
 out:∃ neg A c ws,w.cell? ⟨b,o,none⟩=some (.bool neg)∧w.cell? ⟨b,o+1,none⟩=some (.slice A ws.length c)∧WAt w A c ws∧Norm neg ws x
theorem Slot.lt {w:World} {b o:Nat} (h:Slot w b o):b<w.heap.size:=by
 obtain ⟨cs,t,hb,_⟩:=h
 exact zas hb
theorem Slot.frozen {w:World} {b o:Nat} (h:Slot w b o) (j:Nat):w.frozen? ⟨b,j,none⟩=false:=by
 obtain ⟨cs,t,hb,_⟩:=h
 exact zad hb j
theorem Slot.cells {w:World} {b o:Nat} (h:Slot w b o):(∃ v,w.cell? ⟨b,o,none⟩=some v)∧∃ v,w.cell? ⟨b,o+1,none⟩=some v:=by
 obtain ⟨cs,t,hb,hs,_⟩:=h
 exact ⟨⟨_,(zaf hb o).trans (Array.getElem?_eq_getElem (by omega))⟩,⟨_,(zaf hb (o+1)).trans (Array.getElem?_eq_getElem (by omega))⟩⟩
theorem Slot.upd {w w':World} {b o b' lo hi:Nat} (h:Slot w b o) (k:Upd w w' b' lo hi):Slot w' b o:=by
 obtain ⟨cs,t,hb,hs,ht⟩:=h
 by_cases e:b=b'
 ·subst e
  obtain ⟨c1,h1,s1,_⟩:=k.same cs t hb
  exact ⟨c1,t,h1,by omega,ht⟩
 ·exact ⟨cs,t,(k.other b (zas hb) e).trans hb,hs,ht⟩
theorem IntAt.lt {w:World} {b o:Nat} {x:Int} (h:IntAt w b o x):b<w.heap.size:=h.slot.lt
theorem IntAt.upd {w w':World} {b o b' lo hi:Nat} {x:Int} (h:IntAt w b o x) (k:Upd w w' b' lo hi) (hd:b≠b'∨o+2≤lo∨hi≤o):IntAt w' b o x:=by
 refine ⟨h.slot.upd k,?_⟩
 obtain ⟨neg,A,c,ws,h1,h2,h3,h4⟩:=h.out
 obtain ⟨cs,t,hb,hs,ht⟩:=h.slot
 by_cases e:b=b'
 ·subst e
  obtain ⟨c1,hb1,s1,e1⟩:=k.same cs t hb
  refine ⟨neg,A,c,ws,?_,?_,h3.upd k,h4⟩
  ·rw [←h1,zaf hb,zaf hb1]; exact e1 _ (by omega)
  ·rw [←h2,zaf hb,zaf hb1]; exact e1 _ (by omega)
 ·have hb1:=(k.other b (zas hb) e).trans hb
  refine ⟨neg,A,c,ws,?_,?_,h3.upd k,h4⟩
  ·rw [←h1,zaf hb,zaf hb1]
  ·rw [←h2,zaf hb,zaf hb1]
theorem IntAt.below {w w':World} {b o:Nat} {x:Int} (h:IntAt w b o x) (k:Below w.heap.size w w'):IntAt w' b o x:=h.upd (Upd.of_below k b 0 0) (by omega)
structure Inv (w:World) (L:List (Nat×Nat×Int)):Prop where
 at_:∀ b o x,(b,o,x)∈L→IntAt w b o x∧(o=0∨o=2)
theorem Inv.nil (w:World):Inv w []:=⟨fun _ _ _ h=>by cases h⟩
theorem Inv.get {w:World} {L:List (Nat×Nat×Int)} (h:Inv w L) {b o:Nat} {x:Int} (hm:(b,o,x)∈L):IntAt w b o x:=(h.at_ b o x hm).1
theorem Inv.cons {w:World} {L:List (Nat×Nat×Int)} {b o:Nat} {x:Int} (h:Inv w L) (hx:IntAt w b o x) (ho:o=0∨o=2):Inv w ((b,o,x) :: L):=
 ⟨fun b' o' x' hm=>by
  rcases List.mem_cons.1 hm with e|hm
  ·injection e with e1 e2; injection e2 with e2 e3; subst e1; subst e2; subst e3; exact ⟨hx,ho⟩
  ·exact h.at_ b' o' x' hm⟩
theorem Inv.sub {w:World} {L L':List (Nat×Nat×Int)} (h:Inv w L) (hs:∀ e∈L',e∈L):Inv w L':=⟨fun b o x hm=>h.at_ b o x (hs _ hm)⟩
theorem Inv.below {w w':World} {L:List (Nat×Nat×Int)} (h:Inv w L) (k:Below w.heap.size w w'):Inv w' L:=⟨fun b o x hm=>⟨(h.get hm).below k,(h.at_ b o x hm).2⟩⟩
theorem Inv.upd {w w':World} {L:List (Nat×Nat×Int)} {b o:Nat} {v:Int} (h:Inv w L) (k:Upd w w' b o (o+2)) (hv:IntAt w' b o v) (ho:o=0∨o=2) (L':List (Nat×Nat×Int))
  (hL:∀ e∈L',e=(b,o,v)∨(e∈L∧(e.1≠b∨e.2.1≠o))):Inv w' L':=⟨fun b' o' x' hm=>by
 rcases hL _ hm with e|⟨hm',hne⟩
 ·injection e with e1 e2; injection e2 with e2 e3; subst e1; subst e2; subst e3; exact ⟨hv,ho⟩
 ·have h2:=h.at_ b' o' x' hm'
  refine ⟨h2.1.upd k ?_,h2.2⟩
  rcases hne with hne|hne
  ·exact .inl hne
  ·have:o'≠o:=hne
   omega⟩
theorem IntAt.new (w:World) (t:TypeId) (ht:t≠144):IntAt (w.alloc (.cells #[.bool false,.slice none 0 0] t)) w.heap.size 0 0:=by
 have hb:=zau w (.cells #[.bool false,.slice none 0 0] t)
 exact ⟨⟨_,t,hb,by simp,ht⟩,false,none,0,[],(zaf hb 0).trans rfl,(zaf hb 1).trans rfl,WAt.nil _,⟨Wd.nil,by simp,fun _=>rfl,by simp [val]⟩⟩
theorem IntAt.newRat (w:World) (t:TypeId) (ht:t≠144):IntAt (w.alloc (.cells #[.bool false,.slice none 0 0,.bool false,.slice none 0 0] t)) w.heap.size 0 0∧IntAt (w.alloc (.cells #[.bool false,.slice none 0 0,.bool false,.slice none 0 0] t)) w.heap.size 2 0:=by
 have hb:=zau w (.cells #[.bool false,.slice none 0 0,.bool false,.slice none 0 0] t)
 have hn:Norm false [] 0:=⟨Wd.nil,by simp,fun _=>rfl,by simp [val]⟩
 exact ⟨⟨⟨_,t,hb,by simp,ht⟩,false,none,0,[],(zaf hb 0).trans rfl,(zaf hb 1).trans rfl,WAt.nil _,hn⟩,
  ⟨⟨_,t,hb,by simp,ht⟩,false,none,0,[],(zaf hb 2).trans rfl,(zaf hb 3).trans rfl,WAt.nil _,hn⟩⟩
def sg (neg:Bool) (v:Int):Int:=if neg then -v else v
theorem zcI {ws:List Int} {n:Nat} (hn:0<n) (hl:n≤ws.length) (hz:ws.getD (n-1) 0=0):val (ws.take n)=val (ws.take (n-1)):=by
 obtain ⟨m,rfl⟩:∃ m,n=m+1:=⟨n-1,by omega⟩
 simp only [Nat.add_sub_cancel] at hz ⊢
 have hm:m<ws.length:=by omega
 rw [List.getD_eq_getElem?_getD,List.getElem?_eq_getElem hm] at hz
 have hz':ws[m]=0:=hz
 rw [List.take_succ_eq_append_getElem hm,hz',za0]
 simp [val]
theorem zcU {neg:Bool} {ws:List Int} {n:Nat} (h:Wd ws) (hl:n≤ws.length) (hv:val (ws.take n)=val ws) (ht:n=0∨ws.getD (n-1) 0≠0) :
  Norm (neg && decide (0<n)) (ws.take n) (sg neg (val ws)):=by
 have hlen:(ws.take n).length=n:=by rw [List.length_take]; omega
 refine ⟨h.take n,?_,?_,?_⟩
 ·rcases ht with rfl|ht
  ·simp
  ·intro he
   have hn:0<n:=by
    rcases Nat.eq_zero_or_pos n with rfl|h0
    ·simp at he
    ·exact h0
   rw [List.getLast?_eq_getElem?,hlen,List.getElem?_take,if_pos (by omega)] at he
   rw [List.getD_eq_getElem?_getD,he] at ht
   exact ht rfl
 ·intro he
  have:n=0:=by rw [he] at hlen; simpa using hlen.symm
  subst this
  simp
 ·unfold sg
  rw [hv]
  rcases Nat.eq_zero_or_pos n with rfl|h0
  ·simp only [List.take_zero,val] at hv
   rw [←hv]; cases neg<;>rfl
  ·have:decide (0<n)=true:=by simpa using h0
   rw [this,Bool.and_true]
theorem put_at {w:World} {b o c n:Nat} {A:Option Addr} {neg:Bool} {ws:List Int} {x:Int} (hz:Slot w b o) (hw:WAt w A c ws) (hl:ws.length=n) (hn:Norm neg ws x) :
  IntAt ((w.setCell ⟨b,o,none⟩ (.bool neg)).setCell ⟨b,o+1,none⟩ (.slice A n c)) b o x∧Upd w ((w.setCell ⟨b,o,none⟩ (.bool neg)).setCell ⟨b,o+1,none⟩ (.slice A n c)) b o (o+2):=by
 subst hl
 obtain ⟨cs,t,hb,hs,ht⟩:=hz
 have h1:=zav hb o (.bool neg)
 have h2:=zav h1 (o+1) (.slice A ws.length c)
 have hU:Upd w ((w.setCell ⟨b,o,none⟩ (.bool neg)).setCell ⟨b,o+1,none⟩ (.slice A ws.length c)) b o (o+2):=
  (Upd.set w hb ht (Nat.le_refl _) (by omega) _).trans (Upd.set _ h1 ht (by omega) (by omega) _)
 refine ⟨⟨⟨_,t,h2,by simpa using hs,ht⟩,neg,A,c,ws,?_,?_,hw.upd hU,hn⟩,hU⟩
 ·rw [zaf h2,Array.getElem?_setIfInBounds_ne (by omega),Array.getElem?_setIfInBounds_self_of_lt (by omega)]
 ·rw [zaf h2,Array.getElem?_setIfInBounds_self_of_lt (by simp; omega)]
theorem zax (b o:Nat) (neg:Bool) (A:Option Addr) (c:Nat) (ws:List Int) (w:World) (hz:Slot w b o) (hw:WAt w A c ws) (hwd:Wd ws) :
  Calls Tryz.prog 136 #[.pointer (some ⟨b,o,none⟩),.bool neg,.slice A ws.length c] w fun e w'=>e = .returned (.pointer (some ⟨b,o,none⟩))∧IntAt w' b o (sg neg (val ws))∧Upd w w' b o (o+2):=by
 have hmax:=hw.lmax
 have hlc:=hw.le
 obtain ⟨⟨v0,hc0⟩,v1,hc1⟩:=hz.cells
 have hf0:=hz.frozen o
 have hf1:=hz.frozen (o+1)
 go_enter Tryz.func136,Tryz.ntmps136
 go_wp2
 go_loop [2] (fun v=>∃ n:Nat,n≤ws.length∧v = .slice A n c∧val (ws.take n)=val ws) (fun v=>match v with|.slice _ n _=>n|_=>0)
 case atStart=>exact ⟨ws.length,Nat.le_refl _,rfl,by rw [List.take_length]⟩
 case round =>
  obtain ⟨n,hn,rfl,hv⟩:=hrel
  have HV:=Lib.hid hv
  clear hv
  have hlen:(ws.take n).length=n:=by rw [List.length_take]; omega
  have HL:=Lib.hid hlen
  clear hlen
  rcases Nat.eq_zero_or_pos n with h0|h0
  ·subst h0
   cases neg
   ·have hp:=put_at hz (hw.take 0 (Nat.zero_le _)) HL.out (zcU (neg:=false) hwd hn HV.out (.inl rfl))
    have HP:=Lib.hid hp
    clear hp
    go_wp2
    go_ret
    exact ⟨rfl,HP.out⟩
   ·have hp:=put_at hz (hw.take 0 (Nat.zero_le _)) HL.out (zcU (neg:=true) hwd hn HV.out (.inl rfl))
    have HP:=Lib.hid hp
    clear hp
    go_wp2
    go_ret
    exact ⟨rfl,HP.out⟩
  ·obtain ⟨ad,rfl⟩:=hw.ptr (by omega)
   have hcell:=hw.cell (j:=n-1) (by omega)
   by_cases hz0:ws.getD (n-1) 0=0
   ·have hv2:=zcI h0 hn hz0
    have HV2:=Lib.hid hv2
    clear hv2
    rw [hz0] at hcell
    clear hz0
    go_wp2
    go_round
    case rel=>exact ⟨n-1,by omega,by first|(simp; done)|(simp; omega),HV2.out.symm.trans HV.out⟩
    case measure=>simp; omega
   ·have hb:(ws.getD (n-1) 0 == 0)=false:=beq_eq_false_iff_ne.2 hz0
    generalize ws.getD (n-1) 0=u at hcell hb
    cases neg
    ·have hp:=put_at hz (hw.take n hn) HL.out (zcU (neg:=false) hwd hn HV.out (.inr hz0))
     have HP:=Lib.hid hp
     clear hp hz0
     go_wp2
     go_ret
     exact ⟨rfl,HP.out⟩
    ·have hp:=put_at hz (hw.take n hn) HL.out (zcU (neg:=true) hwd hn HV.out (.inr hz0))
     have hd:decide (0<n)=true:=by simpa using h0
     rw [hd] at hp
     have HP:=Lib.hid hp
     clear hp hz0 hd
     go_wp2
     go_ret
     exact ⟨rfl,HP.out⟩
theorem zcD:(Tryz.prog.info? 144).map (fun i=>(i.zero,i.size,i.bytes))=some (some (.int .u32 0),1,4):=by kernel_rfl
theorem WAt.reads {w:World} {A:Option Addr} {c:Nat} {ws:List Int} (h:WAt w A c ws):ReadsInt w .u32 A ws.length ws:=
 ⟨rfl,h.lmax,fun hn=>by
  obtain ⟨ad,rfl⟩:=h.ptr hn
  exact ⟨ad,rfl,fun j hj=>h.cell hj⟩⟩
theorem WAt.of_own {w:World} {base:Nat} {v:Value} {ws:List Int} (h:w.ownsRow base 144 1 v ws.length (nums .u32 ws)):∃ A c,v = .slice A ws.length c∧WAt w A c ws:=
 WAt.of_R (ok:=fun _=>True) ⟨fun _ _=>trivial,nums .u32 ws,h,Kd.reps_scalar ws⟩
theorem WAt.lit (w:World) (xs:List Int) (hl:xs.length≤9223372036854775807):WAt (w.alloc (.cells (nums .u32 xs).toArray 144)) (some ⟨w.heap.size,0,none⟩) xs.length xs:=by
 obtain ⟨A,c,he,h⟩:=WAt.of_own (zcn w w.heap.size 144 .u32 xs (Nat.le_refl _) hl)
 injection he with e1 e2 e3
 subst e1; subst e3
 exact h
theorem zbz (A:Option Addr) (c:Nat) (ws:List Int) (w:World) (hw:WAt w A c ws) (hs:ws.length≤35184372088832) :
  Calls Tryz.prog 137 #[.slice A ws.length c] w fun e w'=>∃ A' c',e = .returned (.slice A' ws.length c')∧WAt w' A' c' ws∧Below w.heap.size w w':=by
 have hmax:=hw.lmax
 have hlc:=hw.le
 have hn1:=fun W a n c=>Go.run_eql_slice_nil (P:=Tryz.prog) W 68 144 a n c Tryz.underlying68
 rcases A with _|ad
 ·have h0:ws = []:=by
   rcases Nat.eq_zero_or_pos ws.length with h|h
   ·exact List.eq_nil_of_length_eq_zero h
   ·obtain ⟨ad,he⟩:=hw.ptr h; cases he
  subst h0
  go_enter Tryz.func137,Tryz.ntmps137
  go_wp2
  go_ret
  exact ⟨none,0,rfl,WAt.nil _,Below.refl _ _⟩
 ·have hrd:=hw.below (zaa (Below.refl _ _) (.cells #[] 144))
  have HRD:=Lib.hid hrd.reads
  clear hrd
  have how:=zcn w w.heap.size 144 .u32 [] (Nat.le_refl _) (by simp)
  have HOW:=Lib.hid how
  clear how
  go_enter Tryz.func137,Tryz.ntmps137
  go_wp2_with (at_builtin; refine zaN w.heap.size rfl _ _ 68 144 .u32 4 rfl Tryz.underlying68 zcD (by decide) _ [] ws _ ws.length c rfl rfl HOW.out HRD.out (zaa (Below.refl _ _) _) (by simp) (by simp; omega) ?_; intro v1 w1 hown hb hg hat)
  simp only [List.nil_append] at hown
  obtain ⟨A',c',rfl,hW⟩:=WAt.of_own hown
  go_wp2
  go_ret
  exact ⟨A',c',rfl,hW,hb⟩
theorem setInt64_calls (b o:Nat) (n:Int) (w:World) (hz:Slot w b o) (h0 : -9223372036854775808≤n) (h1:n<9223372036854775808) :
  Calls Tryz.prog 157 #[.pointer (some ⟨b,o,none⟩),.int .i64 n] w fun e w'=>e = .returned (.pointer (some ⟨b,o,none⟩))∧IntAt w' b o n∧Upd w w' b o (o+2):=by
 by_cases hn:n<0
 ·have hl:=WAt.lit w [IntKind.u64.wrap (-IntKind.u64.wrap n)%4294967296,IntKind.u64.wrap (-IntKind.u64.wrap n)/4294967296%4294967296] (by simp)
  have HL:=Lib.hid hl
  clear hl
  go_enter Tryz.func157,Tryz.ntmps157
  go_wp2_with fail
  refine (zax b o true _ _ [IntKind.u64.wrap (-IntKind.u64.wrap n)%4294967296,IntKind.u64.wrap (-IntKind.u64.wrap n)/4294967296%4294967296] _ (hz.upd (Upd.of_below (zaa (Below.refl _ _) _) 0 0 0)) HL.out (Wd.cons (by omega) (by omega) (Wd.cons (by omega) (by omega) Wd.nil))).mono ?_
  rintro e w1 ⟨rfl,hx,hu⟩
  go_wp2
  go_ret
  refine ⟨rfl,?_,(Upd.of_below (zaa (Below.refl _ _) _) _ _ _).trans hu⟩
  have:sg true (val [IntKind.u64.wrap (-IntKind.u64.wrap n)%4294967296,IntKind.u64.wrap (-IntKind.u64.wrap n)/4294967296%4294967296])=n:=by
   have e1:IntKind.u64.wrap (-IntKind.u64.wrap n) = -n:=by
    have e0:IntKind.u64.wrap n=n+18446744073709551616:=by
     rw [IntKind.wrap_u64]; omega
    rw [e0,IntKind.wrap_u64]; omega
   rw [e1]
   simp only [sg,val,if_true]
   omega
  rwa [this] at hx
 ·have hl:=WAt.lit w [n%4294967296,n/4294967296] (by simp)
  have HL:=Lib.hid hl
  clear hl
  go_enter Tryz.func157,Tryz.ntmps157
  go_wp2_with fail
  refine (zax b o false _ _ [n%4294967296,n/4294967296] _ (hz.upd (Upd.of_below (zaa (Below.refl _ _) _) 0 0 0)) HL.out (Wd.cons (by omega) (by omega) (Wd.cons (by omega) (by omega) Wd.nil))).mono ?_
  rintro e w1 ⟨rfl,hx,hu⟩
  go_wp2
  go_ret
  refine ⟨rfl,?_,(Upd.of_below (zaa (Below.refl _ _) _) _ _ _).trans hu⟩
  have:sg false (val [n%4294967296,n/4294967296])=n:=by
   simp only [sg,val]
   simp
   omega
  rwa [this] at hx
theorem zbV (n:Int) (w:World) (h0 : -9223372036854775808≤n) (h1:n<9223372036854775808) :
  Calls Tryz.prog 74 #[.int .i64 n] w fun e w'=>e = .returned (.pointer (some ⟨w.heap.size,0,none⟩))∧IntAt w' w.heap.size 0 n∧Below w.heap.size w w':=by
 have hnew:=IntAt.new w 70 (by decide)
 have hu105:=Tryz.underlying70
 go_enter Tryz.func74,Tryz.ntmps74
 go_wp2_with fail
 refine (setInt64_calls w.heap.size 0 n _ hnew.slot h0 h1).mono ?_
 rintro e w1 ⟨rfl,hx,hu⟩
 go_wp2
 go_ret
 exact ⟨rfl,hx,hu.below_tmp (zaa (Below.refl _ _) _) (Nat.le_refl _)⟩
theorem zaI (b o:Nat) (x:Int) (w:World) (hx:IntAt w b o x) :
  Calls Tryz.prog 62 #[.pointer (some ⟨b,o,none⟩)] w fun e w'=>e = .returned (.int .i64 x.sign)∧w=w':=by
 obtain ⟨neg,A,c,ws,h1,h2,h3,h4⟩:=hx.out
 have hmax:=h3.lmax
 rcases Nat.eq_zero_or_pos ws.length with hn|hn
 ·obtain rfl:=List.eq_nil_of_length_eq_zero hn
  have hx0:x=0:=h4.nil_iff.1 rfl
  subst hx0
  clear hn hmax
  go_enter Tryz.func62,Tryz.ntmps62
  go_wp2
  go_ret
  exact ⟨rfl,rfl⟩
 ·have hne:x≠0:=fun e=>by have:=h4.nil_iff.2 e; subst this; simp at hn
  have hb:((ws.length:Int) == 0)=false:=beq_eq_false_iff_ne.2 (by omega)
  cases neg
  ·have hs:x.sign=1:=Int.sign_eq_one_of_pos (by have:=h4.neg_iff; simp at this; omega)
   rw [hs]
   clear hne hs
   go_enter Tryz.func62,Tryz.ntmps62
   go_wp2
   go_ret
   exact ⟨rfl,rfl⟩
  ·have hs:x.sign = -1:=Int.sign_eq_neg_one_of_neg (h4.neg_iff.1 rfl)
   rw [hs]
   clear hne hs
   go_enter Tryz.func62,Tryz.ntmps62
   go_wp2
   go_ret
   exact ⟨rfl,rfl⟩
theorem Norm.sg {neg:Bool} {ws:List Int} {x:Int} (h:Norm neg ws x):sg neg (val ws)=x:=h.eq.symm
theorem Norm.sgAbs {neg:Bool} {ws:List Int} {x:Int} (h:Norm neg ws x):ZP.sg false (val ws)=x.natAbs:=by rw [h.val_eq]; rfl
theorem Norm.sgNeg {neg:Bool} {ws:List Int} {x:Int} (h:Norm neg ws x):ZP.sg (!neg) (val ws) = -x:=by
  have:=h.eq
  unfold ZP.sg
  cases neg<;>simp at this ⊢<;>omega
def big:Nat:=1099511627776
def Bd (n:Nat) (x:Int):Prop:=x.natAbs<2^n
theorem Norm.small {neg:Bool} {ws:List Int} {x:Int} (h:Norm neg ws x) {n:Nat} (hx:Bd n x) (hn:n≤big):ws.length≤34359738368:=by
  refine h.len hx ?_
  unfold big at hn; omega
theorem zac (w:World):Below w.heap.size w w.drew:=zat (Below.refl _ _)
theorem zay {w w1 w2:World} {b o b' o':Nat} {u:Value} (h1:w.cell? ⟨b',o',none⟩=some u) (hb1:Below w.heap.size w w1) (hu:Upd w1 w2 b o (o+2)) (hz:Slot w1 b o) (hd:b'≠b∨o'<o∨o+2≤o'):w2.cell? ⟨b',o',none⟩=some u:=by
  have hlt:=World.block_lt_of_cell? w _ h1
  have h2:=(hb1.cell (p:=⟨b',o',none⟩) hlt).trans h1
  by_cases e:b'=b
  · subst e
    obtain ⟨cs,t,hb,_⟩:=hz
    obtain ⟨c1,hb2,s1,e1⟩:=hu.same cs t hb
    rw [←h2,zaf hb,zaf hb2]
    exact e1 _ (by omega)
  · rw [←h2]
    exact World.cell?_of_block (w:=w1) (hu.other b' (by have:=hb1.size; have:b'<w.heap.size:=hlt; omega) e)
theorem zcl (b o b' o':Nat) (x:Int) (w:World) (hz:Slot w b o) (hx:IntAt w b' o' x) (hd:b'≠b∨o'+2≤o∨o+2≤o') {n:Nat} (hs:Bd n x) (hn:n≤big) :
    Calls Tryz.prog 161 #[.pointer (some ⟨b,o,none⟩),.pointer (some ⟨b',o',none⟩)] w fun e w'=>e = .returned (.pointer (some ⟨b,o,none⟩))∧IntAt w' b o x∧Upd w w' b o (o+2):=by
  obtain ⟨neg,A,c,ws,h1,h2,h3,h4⟩:=hx.out
  have hl:ws.length≤34359738368:=h4.small hs hn
  have hlt:=hx.lt
  clear hs
  go_enter Tryz.func161,Tryz.ntmps161
  go_wp2_with fail
  go_region_held3 (fun w'=>w'.cell? ⟨b',o',none⟩=some (.bool neg)∧w'.cell? ⟨b',o'+1,none⟩=some (.slice A ws.length c))
    (first
      | go_keep
      | exact ⟨zay h1 ((zac w).trans hb1) (Upd.refl _ b o (o+2)) ((hz.upd (Upd.of_below ((zac w).trans hb1) 0 0 0))) (by omega),zay h2 ((zac w).trans hb1) (Upd.refl _ b o (o+2)) ((hz.upd (Upd.of_below ((zac w).trans hb1) 0 0 0))) (by omega)⟩
      | exact ⟨zay h1 ((zac w).trans hb1) hu2 (hz.upd (Upd.of_below ((zac w).trans hb1) 0 0 0)) (by omega),zay h2 ((zac w).trans hb1) hu2 (hz.upd (Upd.of_below ((zac w).trans hb1) 0 0 0)) (by omega)⟩)
    ((first
      | (go_simp; go_at_call 137; refine (zbz A c ws _ (h3.below (zac _)) (by omega)).mono ?_; rintro e w1 ⟨A',c',rfl,hw1,hb1⟩)
      | (go_simp; go_at_call 136; refine (zax b o neg A' c' ws _ (hz.upd (Upd.of_below ((zac w).trans hb1) 0 0 0)) hw1 h4.wd).mono ?_; rintro e w2 ⟨rfl,hx2,hu2⟩)))
  rw [h4.sg] at hx2
  go_wp2
  go_ret
  exact ⟨rfl,hx2,((Upd.of_below (zac w) _ _ _).trans (Upd.of_below hb1 _ _ _)).trans hu2⟩
theorem neg_calls (b o b' o':Nat) (x:Int) (w:World) (hz:Slot w b o) (hx:IntAt w b' o' x) {n:Nat} (hs:Bd n x) (hn:n≤big) :
    Calls Tryz.prog 150 #[.pointer (some ⟨b,o,none⟩),.pointer (some ⟨b',o',none⟩)] w fun e w'=>e = .returned (.pointer (some ⟨b,o,none⟩))∧IntAt w' b o (-x)∧Upd w w' b o (o+2):=by
  obtain ⟨neg,A,c,ws,h1,h2,h3,h4⟩:=hx.out
  have hl:ws.length≤34359738368:=h4.small hs hn
  have hlt:=hx.lt
  clear hs
  go_enter Tryz.func150,Tryz.ntmps150
  go_wp2_with fail
  go_region_with ((first
      | (go_simp; go_at_call 137; refine (zbz A c ws _ (h3.below (zac _)) (by omega)).mono ?_; rintro e w1 ⟨A',c',rfl,hw1,hb1⟩; have g1:=(((zac w).trans hb1).cell (p:=⟨b',o',none⟩) hlt).trans h1)
      | (go_simp; go_at_call 136; refine (zax b o (!neg) A' c' ws _ (hz.upd (Upd.of_below ((zac w).trans hb1) 0 0 0)) hw1 h4.wd).mono ?_; rintro e w2 ⟨rfl,hx2,hu2⟩)))
  all_goals
    rw [h4.sgNeg] at hx2
    go_wp2
    go_ret
    exact ⟨rfl,hx2,((Upd.of_below (zac w) _ _ _).trans (Upd.of_below hb1 _ _ _)).trans hu2⟩
theorem zcs (b o b' o':Nat) (x:Int) (w:World) (hz:Slot w b o) (hx:IntAt w b' o' x) {n:Nat} (hs:Bd n x) (hn:n≤big) :
    Calls Tryz.prog 59 #[.pointer (some ⟨b,o,none⟩),.pointer (some ⟨b',o',none⟩)] w fun e w'=>e = .returned (.pointer (some ⟨b,o,none⟩))∧IntAt w' b o x.natAbs∧Upd w w' b o (o+2):=by
  obtain ⟨neg,A,c,ws,h1,h2,h3,h4⟩:=hx.out
  have hl:ws.length≤34359738368:=h4.small hs hn
  clear hs
  go_enter Tryz.func59,Tryz.ntmps59
  go_wp2_with fail
  refine (zbz A c ws _ h3 (by omega)).mono ?_
  rintro e w1 ⟨A',c',rfl,hw1,hb1⟩
  go_wp2_with fail
  refine (zax b o false A' c' ws _ (hz.upd (Upd.of_below hb1 0 0 0)) hw1 h4.wd).mono ?_
  rintro e w2 ⟨rfl,hx2,hu2⟩
  rw [h4.sgAbs] at hx2
  go_wp2
  go_ret
  exact ⟨rfl,hx2,(Upd.of_below hb1 _ _ _).trans hu2⟩
end Go.Proofs.ZP
end
section
namespace Go.Proofs.ZW.Wb
section
variable {P:Program} {ops:Array Oper} {Q:Exit→Act→World→Prop} {md:Region.Mode} {S:World→Prop} {ds:List Nat}
def Region.reachB (md : Region.Mode) (ops : Array Oper) (i : Nat) : Nat → Nat → Bool
  | 0,_=>false
  | fuel+1,d=>match ops[d]? with
    | some o=>o.after.any fun e=>Region.binds md e && (e.on == i || Region.reachB md ops i fuel e.on)
    | none=>false
def Region.closedB (md : Region.Mode) (ops : Array Oper) (listed : Array Bool) : Bool :=
  (List.range ops.size).all fun j => !listed.getD j false || match ops[j]? with
    | some o=>o.after.all fun e => !Region.binds md e || listed.getD e.on false
    | none=>true
def Region.lastB (md:Region.Mode) (ops:Array Oper) (listed:Array Bool) (ds:List Nat) (i:Nat):Bool:=
  ds.all fun d=>listed.getD d true || Region.reachB md ops i ops.size d
def ListedClosed (md:Region.Mode) (ops:Array Oper) (listed:Array Bool):Prop:=
  ∀ j oj,ops[j]? = some oj→listed.getD j false=true→∀ e∈oj.after,Region.binds md e=true→listed.getD e.on false=true
theorem Region.closedB_spec {listed:Array Bool} (h:Region.closedB md ops listed=true):ListedClosed md ops listed:=by
  intro j oj hj hl e he hb
  have hlt:j<ops.size:=(Array.getElem?_eq_some_iff.1 hj).1
  have h1:=List.all_eq_true.1 h j (List.mem_range.2 hlt)
  simp only [hl,hj,Bool.not_true,Bool.false_or] at h1
  have h2:=Array.all_eq_true_iff_forall_mem.1 h1 e he
  simpa [hb] using h2
theorem ListedClosed.set {listed:Array Bool} {i:Nat} (h:ListedClosed md ops listed) (hi:i∈Region.ready md ops listed):ListedClosed md ops (listed.setIfInBounds i true):=by
  obtain ⟨_,oi,hoi,hall⟩:=mem_ready.1 hi
  intro j oj hj hl e he hb
  by_cases hij:i=j
  · subst hij
    have:oj=oi:=Option.some.inj (hj.symm.trans hoi)
    subst this
    exact getD_set_true (hall e he hb)
  · rw [getD_set_ne false hij] at hl
    exact getD_set_true (h j oj hj hl e he hb)
theorem Region.reach_listed {listed:Array Bool} {i:Nat} (hc:ListedClosed md ops listed):∀ (fuel d:Nat),Region.reachB md ops i fuel d=true→listed.getD d false=true→listed.getD i false=true
  | 0,_,h,_=>by simp [Region.reachB] at h
  | fuel+1,d,h,hl=>by
    unfold Region.reachB at h
    cases ho:ops[d]? with
    | none=>rw [ho] at h; simp at h
    | some o =>
      rw [ho] at h
      obtain ⟨e,he,h1⟩:=Array.any_eq_true'.1 h
      simp only [Bool.and_eq_true,Bool.or_eq_true,beq_iff_eq] at h1
      have hle:=hc d o ho hl e he h1.1
      rcases h1.2 with h2|h2
      · rw [←h2]; exact hle
      · exact Region.reach_listed hc fuel e.on h2 hle
theorem Region.reach_not_ready {listed:Array Bool} {i d fuel:Nat} (hc:ListedClosed md ops listed) (hr:Region.reachB md ops i fuel d=true) (hun:listed.getD i true=false):d ∉ Region.ready md ops listed:=by
  intro hd
  obtain ⟨_,o,ho,hall⟩:=mem_ready.1 hd
  have hi:listed.getD i false=true:=by
    cases fuel with
    | zero=>simp [Region.reachB] at hr
    | succ n =>
      unfold Region.reachB at hr
      rw [ho] at hr
      obtain ⟨e,he,h1⟩:=Array.any_eq_true'.1 hr
      simp only [Bool.and_eq_true,Bool.or_eq_true,beq_iff_eq] at h1
      have hle:=hall e he h1.1
      rcases h1.2 with h2|h2
      · rw [←h2]; exact hle
      · exact Region.reach_listed hc n e.on h2 hle
  rcases Nat.lt_or_ge i listed.size with h'|h'
  · simp [h'] at hun hi
    rw [hun] at hi
    cases hi
  · simp [Array.getElem?_eq_none h'] at hun
def wpAnyLast (P : Program) (md : Region.Mode) (ops : Array Oper) (Q : Exit → Act → World → Prop) (S : World → Prop) (ds : List Nat) : Nat → Array Bool → Act → World → Prop
  | 0,listed,a,w=>Region.ready md ops listed = []∧Q .normal a w
  | fuel+1,listed,a,w =>
    (Region.ready md ops listed = []→Q .normal a w) ∧
    ∀ i∈Region.ready md ops listed,wpOp P ops Q i (fun a' w'=>(i ∉ ds→S w→S w')∧wpAnyLast P md ops Q S ds fuel (listed.setIfInBounds i true) a' w') a w
theorem zcG:∀ (fuel:Nat) (listed:Array Bool) (a:Act) (w:World),wpAnyLast P md ops Q S ds fuel listed a w→wpAny P md ops Q fuel listed a w
  | 0,_,_,_,h=>h
  | fuel+1,_,_,_,h=>⟨h.1,fun i hi=>wpOp_mono (fun a' w' h'=>zcG fuel _ a' w' h'.2) (h.2 i hi)⟩
theorem wpAnyLast_first {i : Nat} {oi : Oper} {v : Value} (hi : ops[i]? = some oi) (hsel : ∀ (j : Nat) (o : Oper) cs b, ops[j]? = some o → o.op ≠ .select cs b)
    (hQ:∀ c a w,Q (.panic c) (a.put oi.dst v) w→Q (.panic c) a w) (n:Nat) :
    ∀ (fuel:Nat) (listed:Array Bool) (a:Act) (w:World),
      (∀ j oj,ops[j]? = some oj→j≠i→listed.getD j true=false→(∀ e∈oj.after,Region.binds md e=true→e.on≠i)→oi.apart ops oj=true) →
      ListedClosed md ops listed→(∀ d∈ds,listed.getD d true=false→Region.reachB md ops i n d=true) →
      i∈Region.ready md ops listed→YieldsIf P ops S oi v a→S w →
      wpAnyLast P md ops Q S ds fuel (listed.setIfInBounds i true) (a.put oi.dst v) w→wpAnyLast P md ops Q S ds (fuel+1) listed a w:=by
  intro fuel
  induction fuel with
  | zero =>
    intro listed a w _ _ _ hr hy hS H
    refine ⟨fun h=>(by rw [h] at hr; cases hr),fun j hj => ?_⟩
    by_cases hji:j=i
    · subst hji; exact hy.wpOp hi hS ⟨fun _ h=>h,H⟩
    · have:=ready_mono hj hji
      rw [H.1] at this
      cases this
  | succ fuel ih =>
    intro listed a w hfree hc hd hr hy hS H
    refine ⟨fun h=>(by rw [h] at hr; cases hr),fun j hj => ?_⟩
    by_cases hji:j=i
    · subst hji; exact hy.wpOp hi hS ⟨fun _ h=>h,H⟩
    · have h1:=H.2 j (ready_mono hj hji)
      obtain ⟨hjun,oj,hoj,hall⟩:=mem_ready.1 hj
      have hiun:=(mem_ready.1 hr).1
      have hnot:∀ e∈oj.after,Region.binds md e=true→e.on≠i:=fun e he hb heq=>by
        have h1:=hall e he hb
        rw [heq] at h1
        rcases Nat.lt_or_ge i listed.size with h'|h'
        · simp [h'] at hiun h1; rw [hiun] at h1; cases h1
        · simp [Array.getElem?_eq_none h'] at h1
      have hjd:j ∉ ds:=fun hm=>Region.reach_not_ready hc (hd j hm hjun) hiun hj
      have h2:=wpOp_putIf hoj (hfree j oj hoj hji hjun hnot) (fun cs b=>hsel i oi cs b hi) (fun cs b=>hsel j oj cs b hoj) hQ hy h1
      have hfree':∀ k ok,ops[k]? = some ok→k≠i→(listed.setIfInBounds j true).getD k true=false →
          (∀ e∈ok.after,Region.binds md e=true→e.on≠i)→oi.apart ops ok=true:=fun k ok hk hki hun hno=>by
        refine hfree k ok hk hki ?_ hno
        by_cases hjk:j=k
        · subst hjk; exact hjun
        · rw [getD_set_ne true hjk] at hun; exact hun
      have hd':∀ d∈ds,(listed.setIfInBounds j true).getD d true=false→Region.reachB md ops i n d=true:=fun d hm hun=>by
        refine hd d hm ?_
        by_cases hjk:j=d
        · subst hjk; exact hjun
        · rw [getD_set_ne true hjk] at hun; exact hun
      refine wpOp_mono (fun a' w' h3=>⟨h3.2.1,ih (listed.setIfInBounds j true) a' w' hfree' (hc.set hj) hd' (ready_mono hr (Ne.symm hji)) h3.1 (h3.2.1 hjd hS) ?_⟩) h2
      rw [Array.setIfInBounds_comm _ _ hji]
      exact h3.2.2
theorem wpAnyLast_any {i : Nat} {oi : Oper} {v : Value} (hi : ops[i]? = some oi) (hsel : ∀ (j : Nat) (o : Oper) cs b, ops[j]? = some o → o.op ≠ .select cs b)
    (hQ:∀ c a w,Q (.panic c) (a.put oi.dst v) w→Q (.panic c) a w) :
    ∀ (fuel:Nat) (listed:Array Bool) (a:Act) (w:World),
      (∀ j oj,ops[j]? = some oj→j≠i→listed.getD j true=false→(∀ e∈oj.after,Region.binds md e=true→e.on≠i)→oi.apart ops oj=true) →
      i∈Region.ready md ops listed→Yields P ops oi v a →
      wpAnyLast P md ops Q S ds fuel (listed.setIfInBounds i true) (a.put oi.dst v) w→wpAnyLast P md ops Q S ds (fuel+1) listed a w:=by
  intro fuel
  induction fuel with
  | zero =>
    intro listed a w _ hr hy H
    refine ⟨fun h=>(by rw [h] at hr; cases hr),fun j hj => ?_⟩
    by_cases hji:j=i
    · subst hji; exact (hy.yieldsIf (S:=fun _=>True)).wpOp hi trivial ⟨fun _ h=>h,H⟩
    · have:=ready_mono hj hji
      rw [H.1] at this
      cases this
  | succ fuel ih =>
    intro listed a w hfree hr hy H
    refine ⟨fun h=>(by rw [h] at hr; cases hr),fun j hj => ?_⟩
    by_cases hji:j=i
    · subst hji; exact (hy.yieldsIf (S:=fun _=>True)).wpOp hi trivial ⟨fun _ h=>h,H⟩
    · have h1:=H.2 j (ready_mono hj hji)
      obtain ⟨hjun,oj,hoj,hall⟩:=mem_ready.1 hj
      have hiun:=(mem_ready.1 hr).1
      have hnot:∀ e∈oj.after,Region.binds md e=true→e.on≠i:=fun e he hb heq=>by
        have h1:=hall e he hb
        rw [heq] at h1
        rcases Nat.lt_or_ge i listed.size with h'|h'
        · simp [h'] at hiun h1; rw [hiun] at h1; cases h1
        · simp [Array.getElem?_eq_none h'] at h1
      have h2:=wpOp_put hoj (hfree j oj hoj hji hjun hnot) (fun cs b=>hsel i oi cs b hi) (fun cs b=>hsel j oj cs b hoj) hQ hy h1
      have hfree':∀ k ok,ops[k]? = some ok→k≠i→(listed.setIfInBounds j true).getD k true=false →
          (∀ e∈ok.after,Region.binds md e=true→e.on≠i)→oi.apart ops ok=true:=fun k ok hk hki hun hno=>by
        refine hfree k ok hk hki ?_ hno
        by_cases hjk:j=k
        · subst hjk; exact hjun
        · rw [getD_set_ne true hjk] at hun; exact hun
      refine wpOp_mono (fun a' w' h3=>⟨h3.2.1,ih (listed.setIfInBounds j true) a' w' hfree' (ready_mono hr (Ne.symm hji)) h3.1 ?_⟩) h2
      rw [Array.setIfInBounds_comm _ _ hji]
      exact h3.2.2
theorem wpAnyLast_take {i:Nat} {oi:Oper} {v:Value} {fuel:Nat} {listed:Array Bool} {a:Act} {w:World} (hi:ops[i]? = some oi)
    (hs:Region.noSelect ops=true) (hf:Region.free md ops listed i=true) (hr:(Region.ready md ops listed).contains i=true)
    (hc:Region.closedB md ops listed=true) (hl:Region.lastB md ops listed ds i=true)
    (hQ:∀ c a w,Q (.panic c) (a.put oi.dst v) w→Q (.panic c) a w) (hy:YieldsIf P ops S oi v a) (hS:S w)
    (h:wpAnyLast P md ops Q S ds fuel (listed.setIfInBounds i true) (a.put oi.dst v) w):wpAnyLast P md ops Q S ds (fuel+1) listed a w:=
  wpAnyLast_first hi (Region.noSelect_spec hs) hQ ops.size fuel listed a w (Region.free_spec hi hf) (Region.closedB_spec hc)
    (fun d hm hun=>by have:=List.all_eq_true.1 hl d hm; rw [hun] at this; simpa using this) (by simpa using hr) hy hS h
theorem wpAnyLast_all {rs:List Nat} {fuel:Nat} {listed:Array Bool} {a:Act} {w:World} (hr:Region.ready md ops listed=rs) (hne:rs ≠ [])
    (h:∀ i∈rs,wpOp P ops Q i (fun a' w'=>(i ∉ ds→S w→S w')∧wpAnyLast P md ops Q S ds fuel (listed.setIfInBounds i true) a' w') a w):wpAnyLast P md ops Q S ds (fuel+1) listed a w:=
  ⟨fun h0=>absurd (hr ▸ h0) hne,hr ▸ h⟩
theorem wpAnyLast_done {listed:Array Bool} {a:Act} {w:World} (hr:Region.ready md ops listed = []) (h:Q .normal a w) :
    ∀ fuel,wpAnyLast P md ops Q S ds fuel listed a w
  | 0=>⟨hr,h⟩
  | _+1=>⟨fun _=>h,by rw [hr]; simp⟩
theorem wp_region_last {id:Nat} {a:Act} {w:World} (hm:P.follows .mixedOrders=true)
    (h:wpAnyLast P .any ops Q S ds ops.size (Array.replicate ops.size false) a { w with drawn:=w.drawn+1 }):(Code.region id ops true).wp P Q a w:=
  wp_region_any hm (zcG _ _ _ _ h)
end
section
variable {P:Program} {ops:Array Oper} {Q:Exit→Act→World→Prop} {md:Region.Mode} {S:World→Prop} {ds:List Nat}
def AllReadyL (P:Program) (md:Region.Mode) (ops:Array Oper) (Q:Exit→Act→World→Prop) (S:World→Prop) (ds:List Nat) (fuel:Nat) (listed:Array Bool) (a:Act) (w:World) (rs:List Nat):Prop:=
  ∀ i∈rs,wpOp P ops Q i (fun a' w'=>(i ∉ ds→S w→S w')∧wpAnyLast P md ops Q S ds fuel (listed.setIfInBounds i true) a' w') a w
theorem AllReadyL.nil {fuel:Nat} {listed:Array Bool} {a:Act} {w:World}:AllReadyL P md ops Q S ds fuel listed a w []:=fun _ h=>by cases h
theorem AllReadyL.cons {fuel:Nat} {listed:Array Bool} {a:Act} {w:World} {i:Nat} {o:Oper} {rs:List Nat} (ho:ops[i]? = some o) (hd:i ∉ ds)
    (h:∀ K':Act→World→Prop,Shut (∀ a w,S w→(S w→wpAnyLast P md ops Q S ds fuel (listed.setIfInBounds i true) a w)→K' a w)→if Region.wanted o (yielded ops a.tmps)=true then Oper.wp P o a w K' Q else K' (a.put o.dst undef) w)
    (hs:AllReadyL P md ops Q S ds fuel listed a w rs):AllReadyL P md ops Q S ds fuel listed a w (i :: rs):=fun j hj=>by
  rcases List.mem_cons.1 hj with rfl|hj
  · exact wpOp_step ho (fun K' hK=>h K' (fun a w hS hW=>hK a w ⟨fun _ _=>hS,hW hS⟩))
  · exact hs j hj
theorem AllReadyL.cons_last {fuel:Nat} {listed:Array Bool} {a:Act} {w:World} {i:Nat} {o:Oper} {rs:List Nat} (ho:ops[i]? = some o) (hd:i∈ds)
    (h:∀ K':Act→World→Prop,Shut (∀ a w,wpAnyLast P md ops Q S ds fuel (listed.setIfInBounds i true) a w→K' a w)→if Region.wanted o (yielded ops a.tmps)=true then Oper.wp P o a w K' Q else K' (a.put o.dst undef) w)
    (hs:AllReadyL P md ops Q S ds fuel listed a w rs):AllReadyL P md ops Q S ds fuel listed a w (i :: rs):=fun j hj=>by
  rcases List.mem_cons.1 hj with rfl|hj
  · exact wpOp_step ho (fun K' hK=>h K' (fun a w hW=>hK a w ⟨fun hn=>absurd hd hn,hW⟩))
  · exact hs j hj
theorem wpAnyLast_ready {rs:List Nat} {fuel:Nat} {listed:Array Bool} {a:Act} {w:World} (hr:Region.ready md ops listed=rs) (hne:rs ≠ [])
    (h:AllReadyL P md ops Q S ds fuel listed a w rs):wpAnyLast P md ops Q S ds (fuel+1) listed a w:=wpAnyLast_all hr hne h
theorem start_ {id n:Nat} {a:Act} {w:World} (l:Array Bool) (hm:P.follows .mixedOrders=true) (hn:ops.size=n) (hl:Array.replicate n false=l) (hS:S w.drew)
    (h:S w.drew→wpAnyLast P .any ops Q S ds n l a w.drew):(Code.region id ops true).wp P Q a w:=by
  subst hn
  subst hl
  exact wp_region_last hm (h hS)
def takeB (md:Region.Mode) (ops:Array Oper) (ds:List Nat) (l l':Array Bool) (i:Nat):Bool:=
  Region.noSelect ops && Region.free md ops l i && (Region.ready md ops l).contains i && Region.closedB md ops l && Region.lastB md ops l ds i && (l.setIfInBounds i true == l')
theorem take_ {i:Nat} {N:Option Tmp} {oi:Oper} {v:Value} {fuel:Nat} {l:Array Bool} {a:Act} {w:World} (l':Array Bool) (hi:ops[i]? = some oi) (hN:oi.dst=N) (hc:takeB md ops ds l l' i=true)
    (hQ:∀ c a w,Q (.panic c) (a.put oi.dst v) w→Q (.panic c) a w) (hy:YieldsIf P ops S oi v a) (hS:S w) {a':Act} (ha:a.put N v=a')
    (h:wpAnyLast P md ops Q S ds fuel l' a' w):wpAnyLast P md ops Q S ds (fuel+1) l a w:=by
  subst ha
  subst hN
  simp only [takeB,Bool.and_eq_true,beq_iff_eq] at hc
  obtain ⟨⟨⟨⟨⟨h1,h2⟩,h3⟩,h4⟩,h5⟩,h6⟩:=hc
  subst h6
  exact wpAnyLast_take hi h1 h2 h3 h4 h5 hQ hy hS h
def anyB (md:Region.Mode) (ops:Array Oper) (l l':Array Bool) (i:Nat):Bool:=
  Region.noSelect ops && Region.free md ops l i && (Region.ready md ops l).contains i && (l.setIfInBounds i true == l')
theorem pure_ {i:Nat} {N:Option Tmp} {oi:Oper} {v:Value} {fuel:Nat} {l:Array Bool} {a:Act} {w:World} (l':Array Bool) (hi:ops[i]? = some oi) (hN:oi.dst=N) (hc:anyB md ops l l' i=true)
    (hQ:∀ c a w,Q (.panic c) (a.put oi.dst v) w→Q (.panic c) a w) (hy:Yields P ops oi v a) {a':Act} (ha:a.put N v=a')
    (h:wpAnyLast P md ops Q S ds fuel l' a' w):wpAnyLast P md ops Q S ds (fuel+1) l a w:=by
  subst ha
  subst hN
  simp only [anyB,Bool.and_eq_true,beq_iff_eq] at hc
  obtain ⟨⟨⟨h1,h2⟩,h3⟩,h6⟩:=hc
  subst h6
  exact wpAnyLast_any hi (Region.noSelect_spec h1) hQ fuel l a w (Region.free_spec hi h2) (by simpa using h3) hy h
def readyB (md:Region.Mode) (ops:Array Oper) (l l':Array Bool) (i:Nat):Bool:=(Region.ready md ops l == [i]) && (l.setIfInBounds i true == l')
theorem last_ {i:Nat} {N:Option Tmp} {oi:Oper} {fuel:Nat} {l:Array Bool} {a:Act} {w:World} (l':Array Bool) (hi:ops[i]? = some oi) (hN:oi.dst=N) (hc:readyB md ops l l' i=true) (hd:i∈ds)
    (h:∀ K:Act→World→Prop,Shut (∀ a' w',wpAnyLast P md ops Q S ds fuel l' a' w'→K a' w')→if Region.wanted oi (yielded ops a.tmps)=true then Oper.wp P oi a w K Q else K (a.put N undef) w) :
    wpAnyLast P md ops Q S ds (fuel+1) l a w:=by
  subst hN
  simp only [readyB,Bool.and_eq_true,beq_iff_eq] at hc
  obtain ⟨h1,h2⟩:=hc
  subst h2
  exact wpAnyLast_ready h1 (by simp) (AllReadyL.cons_last hi hd (fun K hK=>h K hK) AllReadyL.nil)
theorem done_ {l:Array Bool} {a:Act} {w:World} {n:Nat} (hr:(Region.ready md ops l == [])=true) (h:Q .normal a w):wpAnyLast P md ops Q S ds n l a w:=wpAnyLast_done (by simpa using hr) h n
theorem enters_ {f:FuncId} {fn:Func} (hf:P.funcs[f]? = some fn) (hname:(fn.name == "runtime.NumGoroutine")=false) (hb:fn.body.isSome=true) (args:Array Value) (w:World):(callFunc f args).run P w = .ok (.enter f args) w:=by
  have h1:fn.name ≠ "runtime.NumGoroutine":=by simpa using hname
  obtain ⟨c,hc⟩:=Option.isSome_iff_exists.1 hb
  simp [callFunc,hf,h1,hc]
theorem zbR {rest:List Oper} {oi:Oper} {a:Act} {w:World} (N:Option Tmp) (hd:oi.dst=N) (hg:oi.guard=none) {f:FuncId} {fn:Func} {as0:Array Operand} {ts:Array TypeId} (hf:P.funcs[f]? = some fn) (hname:(fn.name == "runtime.NumGoroutine")=false) (hb:fn.body.isSome=true) (args:Array Value)
    (hop:oi.op = .call { callee:=.value (.func f),args:=as0,argTypes:=ts }) (hargs:as0.map a.eval=args)
    (h:Calls P f args w fun e w'=>∃ v,e = .returned v∧wpList P ops Q rest (a.put N v) w'):wpList P ops Q (oi :: rest) a w:=by
  refine wpList_plain hg fun K hK => ?_
  have he:=enters_ hf hname hb args w
  have hrun:(execOp a.eval oi).run P w = .ok (.enter f args) w:=by
    unfold execOp
    simp [hop,resolve,Deferred.ofValue,invoke,Act.eval,hargs,he]
  unfold Oper.wp
  rw [hrun,Oper.upon_enter]
  refine h.mono fun e w'' hh => ?_
  obtain ⟨v,rfl,hk⟩:=hh
  subst hd
  exact hK _ _ hk
theorem skip_ {oi:Oper} {a:Act} {w w1:World} {K:Act→World→Prop} (hw:Region.wanted oi (yielded ops a.tmps)=true) (hN:oi.dst=none) (hrun:(execOp a.eval oi).run P w = .ok .skip w1)
    (h:K a w1):if Region.wanted oi (yielded ops a.tmps)=true then Oper.wp P oi a w K Q else K (a.put none undef) w:=by
  rw [if_pos hw]
  unfold Oper.wp
  rw [hrun]
  show K (a.put oi.dst undef) w1
  rw [hN]
  exact h
theorem i64_w (n:Int):IntKind.i64.wrap n=Go.RowKit.wrap64 n:=by unfold Go.RowKit.wrap64; exact IntKind.wrap_i64 n
theorem i32_w (n:Int):IntKind.i32.wrap n=Go.RowKit.wrap32 n:=by unfold Go.RowKit.wrap32; exact IntKind.wrap_i32 n
end
end Go.Proofs.ZW.Wb
end
section
namespace Go.Proofs.ZW.Wb
open Go.Proofs.ZW.Wa (Aside0)
def needsOf (md:Region.Mode) (o:Oper):List Nat:=(o.after.toList.filter (fun e=>Region.binds md e)).map (fun e=>e.on)
def clashOf (md:Region.Mode) (ops:Array Oper) (i:Nat) (oi:Oper):List Nat:=(List.range ops.size).filter fun j => !(j == i) && match ops[j]? with
 | some oj => !(oj.after.any (fun e=>Region.binds md e && e.on == i) || oi.apart ops oj)
 | none=>false
def rtab (md:Region.Mode) (ops:Array Oper):Bool×List (List Nat×List Nat):=(Region.noSelect ops,(List.range ops.size).map fun i=>match ops[i]? with
 | some o=>(needsOf md o,clashOf md ops i o)
 | none=>([],[]))
def readyAt (T:List (List Nat×List Nat)) (l:List Bool) (i:Nat):Bool:=!l.getD i true && match T[i]? with
 | some r=>r.1.all (fun j=>l.getD j false)
 | none=>false
def readyT (T:List (List Nat×List Nat)) (l:List Bool):List Nat:=(List.range T.length).filter (readyAt T l)
def freeT (T:List (List Nat×List Nat)) (l:List Bool) (i:Nat):Bool:=match T[i]? with
 | some r=>r.2.all (fun j=>l.getD j true)
 | none=>false
def closedT (T:List (List Nat×List Nat)) (l:List Bool):Bool:=(List.range T.length).all fun j => !l.getD j false || match T[j]? with
 | some r=>r.1.all (fun k=>l.getD k false)
 | none=>true
def reachT (T:List (List Nat×List Nat)) (i:Nat):Nat→Nat→Bool
 | 0,_=>false
 | fuel+1,d=>match T[d]? with
  | some r=>r.1.any fun j=>j == i || reachT T i fuel j
  | none=>false
def lastT (T:List (List Nat×List Nat)) (l:List Bool) (ds:List Nat) (i:Nat):Bool:=ds.all fun d=>l.getD d true || reachT T i T.length d
section
variable {md:Region.Mode} {ops:Array Oper} {T:Bool×List (List Nat×List Nat)} {l l' li lj lk:Array Bool} {ds:List Nat} {i j k:Nat}
theorem gd (l:Array Bool) (j:Nat) (b:Bool):l.getD j b=l.toList.getD j b:=by simp [Array.getD_eq_getD_getElem?,List.getD_eq_getElem?_getD]
theorem needs_all (o:Oper) (p:Nat→Bool):o.after.all (fun e => !Region.binds md e || p e.on)=(needsOf md o).all p:=by
 unfold needsOf
 rw [←Array.all_toList]
 induction o.after.toList with
 | nil=>rfl
 | cons e r ih =>
  rw [List.all_cons,ih,List.filter_cons]
  cases h:Region.binds md e<;>simp
theorem needs_any (o:Oper) (p:Nat→Bool):o.after.any (fun e=>Region.binds md e && p e.on)=(needsOf md o).any p:=by
 unfold needsOf
 rw [←Array.any_toList]
 induction o.after.toList with
 | nil=>rfl
 | cons e r ih =>
  rw [List.any_cons,ih,List.filter_cons]
  cases h:Region.binds md e<;>simp
theorem zb8:(rtab md ops).2.length=ops.size:=by simp [rtab]
theorem zcL {o:Oper} (h:ops[i]? = some o):(rtab md ops).2[i]? = some (needsOf md o,clashOf md ops i o):=by
 have hi:=(Array.getElem?_eq_some_iff.1 h).1
 unfold rtab
 rw [List.getElem?_map,List.getElem?_range hi,Option.map_some,h]
theorem zcM (h:ops[i]? = none):(rtab md ops).2[i]? = none:=by
 have hi:ops.size≤i:=Array.getElem?_eq_none_iff.1 h
 exact List.getElem?_eq_none (by rw [zb8]; exact hi)
theorem readyAt_eq:readyAt (rtab md ops).2 l.toList i=(!l.getD i true && ((ops[i]?).map (·.after.all fun e => !Region.binds md e || l.getD e.on false)).getD false):=by
 unfold readyAt
 rw [gd]
 cases h:ops[i]? with
 | none=>rw [zcM h]; rfl
 | some o =>
  rw [zcL h]
  simp only [Option.map_some,Option.getD_some]
  rw [←needs_all]
  simp only [gd]
theorem ready_eq:Region.ready md ops l=readyT (rtab md ops).2 l.toList:=by
 unfold Region.ready readyT
 rw [zb8]
 refine List.filter_congr (fun i _ => ?_)
 rw [readyAt_eq]
theorem free_eq:Region.free md ops l i=freeT (rtab md ops).2 l.toList i:=by
 unfold Region.free freeT
 cases h:ops[i]? with
 | none=>rw [zcM h]
 | some oi =>
  rw [zcL h]
  simp only [clashOf]
  rw [List.all_filter]
  congr 1
  funext j
  rw [gd]
  cases hj:ops[j]? with
  | none=>cases (j == i)<;>cases (l.toList.getD j true)<;>simp
  | some oj =>
   cases (j == i)<;>cases (l.toList.getD j true)<;>cases (oj.after.any (fun e=>Region.binds md e && e.on == i) || oi.apart ops oj)<;>simp_all
theorem closed_eq:Region.closedB md ops l=closedT (rtab md ops).2 l.toList:=by
 unfold Region.closedB closedT
 rw [zb8]
 congr 1
 funext j
 rw [gd]
 cases h:ops[j]? with
 | none=>rw [zcM h]
 | some o =>
  rw [zcL h]
  simp only
  rw [←needs_all]
  simp only [gd]
theorem reach_eq:∀ (fuel d:Nat),Region.reachB md ops i fuel d=reachT (rtab md ops).2 i fuel d
 | 0,_=>rfl
 | fuel+1,d=>by
  unfold Region.reachB reachT
  cases h:ops[d]? with
  | none=>rw [zcM h]
  | some o =>
   rw [zcL h]
   simp only
   rw [←needs_any]
   congr 1
   funext e
   rw [reach_eq fuel]
theorem last_eq:Region.lastB md ops l ds i=lastT (rtab md ops).2 l.toList ds i:=by
 unfold Region.lastB lastT
 rw [zb8]
 congr 1
 funext d
 rw [gd,reach_eq]
theorem readyAt_mem (h:readyAt T.2 l.toList i=true) (hT:rtab md ops=T):(Region.ready md ops l).contains i=true:=by
 subst hT
 rw [ready_eq]
 unfold readyT
 rw [List.contains_iff_mem,List.mem_filter,List.mem_range]
 refine ⟨?_,h⟩
 unfold readyAt at h
 rw [Bool.and_eq_true] at h
 cases hq:(rtab md ops).2[i]? with
 | none=>rw [hq] at h; simp at h
 | some r=>exact (List.getElem?_eq_some_iff.1 hq).1
theorem set_of (h:(l.toList.set i true == l'.toList)=true):(l.setIfInBounds i true == l')=true:=by
 rw [beq_iff_eq] at h ⊢
 apply Array.ext'
 rw [Array.toList_setIfInBounds]
 exact h
def anyT (T:Bool×List (List Nat×List Nat)) (l l':List Bool) (i:Nat):Bool:=T.1 && freeT T.2 l i && readyAt T.2 l i && (l.set i true == l')
theorem zci (hT:rtab md ops=T) (h:anyT T l.toList l'.toList i=true):anyB md ops l l' i=true:=by
 simp only [anyT,Bool.and_eq_true] at h
 obtain ⟨⟨⟨h1,h2⟩,h3⟩,h4⟩:=h
 have h5:=readyAt_mem h3 hT
 have h6:=set_of h4
 subst hT
 simp only [anyB,Bool.and_eq_true]
 exact ⟨⟨⟨h1,by rw [free_eq]; exact h2⟩,h5⟩,h6⟩
def takeT (T:Bool×List (List Nat×List Nat)) (ds:List Nat) (l l':List Bool) (i:Nat):Bool:=T.1 && freeT T.2 l i && readyAt T.2 l i && closedT T.2 l && lastT T.2 l ds i && (l.set i true == l')
theorem take_of (hT:rtab md ops=T) (h:takeT T ds l.toList l'.toList i=true):takeB md ops ds l l' i=true:=by
 simp only [takeT,Bool.and_eq_true] at h
 obtain ⟨⟨⟨⟨⟨h1,h2⟩,h3⟩,h4⟩,h5⟩,h6⟩:=h
 have h7:=readyAt_mem h3 hT
 have h8:=set_of h6
 subst hT
 simp only [takeB,Bool.and_eq_true]
 exact ⟨⟨⟨⟨⟨h1,by rw [free_eq]; exact h2⟩,h7⟩,by rw [closed_eq]; exact h4⟩,by rw [last_eq]; exact h5⟩,h8⟩
theorem one_of (hT:rtab md ops=T) (h:(readyT T.2 l.toList == [i] && l.toList.set i true == l'.toList)=true):readyB md ops l l' i=true:=by
 simp only [Bool.and_eq_true] at h
 obtain ⟨h1,h2⟩:=h
 subst hT
 simp only [readyB,Bool.and_eq_true]
 exact ⟨by rw [ready_eq]; exact h1,set_of h2⟩
theorem done_of (hT:rtab md ops=T) (h:(readyT T.2 l.toList == [])=true):(Region.ready md ops l == [])=true:=by
 subst hT
 rw [ready_eq]
 exact h
def upM (B:List Nat) (d:Nat):List Nat→Nat
 | []=>0
 | n :: r=>(2^n ||| (if n<d then B.getD n 0 else 0)) ||| upM B d r
def waitsOk (T:List (List Nat×List Nat)) (B:List Nat):Bool:=(List.range T.length).all fun d=>match T[d]? with
 | some r=>(B.getD d 0 ||| upM B d r.1) == upM B d r.1
 | none=>false
theorem upM_bit {B:List Nat} {d i:Nat}:∀ {ns:List Nat},(upM B d ns).testBit i=true→∃ n∈ns,n=i∨(n<d∧(B.getD n 0).testBit i=true)
 | [],h=>by simp [upM] at h
 | n :: r,h=>by
  unfold upM at h
  rw [Nat.testBit_or,Nat.testBit_or,Bool.or_eq_true,Bool.or_eq_true] at h
  rcases h with (h|h)|h
  ·rw [Nat.testBit_two_pow] at h
   exact ⟨n,List.mem_cons_self,.inl (by simpa using h)⟩
  ·by_cases hn:n<d
   ·rw [if_pos hn] at h
    exact ⟨n,List.mem_cons_self,.inr ⟨hn,h⟩⟩
   ·rw [if_neg hn] at h
    simp at h
  ·obtain ⟨m,hm,h2⟩:=upM_bit h
   exact ⟨m,List.mem_cons_of_mem _ hm,h2⟩
theorem reach_bit {T:List (List Nat×List Nat)} {B:List Nat} (hB:waitsOk T B=true):∀ (fuel d:Nat),d<fuel→d<T.length→(B.getD d 0).testBit i=true→reachT T i fuel d=true
 | 0,d,h,_,_=>by omega
 | fuel+1,d,h,hd,hb=>by
  have h1:=List.all_eq_true.1 hB d (List.mem_range.2 hd)
  cases hr:T[d]? with
  | none=>rw [hr] at h1; simp at h1
  | some r =>
   rw [hr] at h1
   simp only [beq_iff_eq] at h1
   have h2:(upM B d r.1).testBit i=true:=by rw [←h1,Nat.testBit_or,hb,Bool.true_or]
   obtain ⟨n,hn,h3⟩:=upM_bit h2
   unfold reachT
   rw [hr]
   simp only
   rw [List.any_eq_true]
   refine ⟨n,hn,?_⟩
   rcases h3 with rfl|⟨h4,h5⟩
   ·simp
   ·rw [reach_bit hB fuel n (by omega) (by omega) h5,Bool.or_true]
def lastW (T:List (List Nat×List Nat)) (B:List Nat) (l:List Bool) (ds:List Nat) (i:Nat):Bool:=ds.all fun d=>l.getD d true || (decide (d<T.length) && (B.getD d 0).testBit i)
def takeW (T:Bool×List (List Nat×List Nat)) (B:List Nat) (ds:List Nat) (l l':List Bool) (i:Nat):Bool:=T.1 && freeT T.2 l i && readyAt T.2 l i && closedT T.2 l && lastW T.2 B l ds i && (l.set i true == l')
theorem take_ofW {B:List Nat} (hT:rtab md ops=T) (hB:waitsOk T.2 B=true) (h:takeW T B ds l.toList l'.toList i=true):takeB md ops ds l l' i=true:=by
 refine take_of hT ?_
 simp only [takeW,takeT,Bool.and_eq_true] at h ⊢
 obtain ⟨⟨⟨⟨⟨h1,h2⟩,h3⟩,h4⟩,h5⟩,h6⟩:=h
 refine ⟨⟨⟨⟨⟨h1,h2⟩,h3⟩,h4⟩,?_⟩,h6⟩
 unfold lastW at h5
 unfold lastT
 rw [List.all_eq_true] at h5 ⊢
 intro d hd
 have h7:=h5 d hd
 rw [Bool.or_eq_true,Bool.and_eq_true,decide_eq_true_eq] at h7
 rcases h7 with h7|⟨h8,h9⟩
 ·rw [h7,Bool.true_or]
 ·rw [reach_bit hB _ d h8 h8 h9,Bool.or_true]
theorem with_tabW {P:Program} {Q:Exit→Act→World→Prop} {S:World→Prop} {n:Nat} {a:Act} {w:World} {B:List Nat} (hT:rtab md ops=T) (hB:waitsOk T.2 B=true) (h:Aside0 (rtab md ops=T)→Aside0 (waitsOk T.2 B=true)→wpAnyLast P md ops Q S ds n l a w):wpAnyLast P md ops Q S ds n l a w:=h ⟨hT⟩ ⟨hB⟩
end
def opsIn:Code→Nat→Option (Array Oper)
 | .region id ops _,k=>if id == k then some ops else none
 | .seq a b,k=>match opsIn a k with
  | some o=>some o
  | none=>opsIn b k
 | .cond _ a b,k=>match opsIn a k with
  | some o=>some o
  | none=>opsIn b k
 | .block _ c,k=>opsIn c k
 | .loop c,k=>opsIn c k
 | .scope c,k=>opsIn c k
 | .rangeFunc _ _ a b,k=>match opsIn a k with
  | some o=>some o
  | none=>opsIn b k
 | _,_=>none
def opsOf (f:Func) (k:Nat):Array Oper:=((f.body.bind fun c=>opsIn c k)).getD #[]
end Go.Proofs.ZW.Wb
end
section
namespace Go.Proofs.ZW.Wa
open Go.RowKit
namespace Kd
def tag {α:Type} (f:Nat→Nat) (d:Kd α):Kd (α×Nat) where
 sz:=d.sz
 E:=d.E
 K:=fun w x cs=>d.K w x.1 cs
 M:=fun w base ok x cs=>d.M w base (fun k=>ok k∧f k=x.2) x.1 cs
 K_len:=fun h=>d.K_len h
 K_one:=fun h=>d.K_one h
 K_below:=fun hb h=>d.K_below hb h
 K_of_M:=fun h=>d.K_of_M h
 M_mono:=fun hok h=>d.M_mono (fun k hk=>⟨hok k hk.1,hk.2⟩) h
 M_bound:=fun h=>d.M_mono (fun _ hk=>⟨⟨hk.1.1,hk.2⟩,hk.1.2⟩) (d.M_bound h)
 M_move:=fun hm h=>d.M_move (fun k hk=>hm k hk.1) h
 M_lower:=fun hb h=>d.M_lower hb h
def raw (sz:Nat):Kd (List Value) where
 sz:=sz
 E:=[]
 K:=fun _ x cs=>cs=x∧cs.length=sz∧∀ u∈cs,u.oneCell'=true
 M:=fun _ _ _ x cs=>cs=x∧cs.length=sz∧∀ u∈cs,u.oneCell'=true
 K_len:=fun h=>h.2.1
 K_one:=fun h=>h.2.2
 K_below:=fun _ h=>h
 K_of_M:=fun h=>h
 M_mono:=fun _ h=>h
 M_bound:=fun h=>h
 M_move:=fun _ h=>h
 M_lower:=fun _ h=>h
def S {α:Type} (d:Kd α) (e:Nat) (w:World) (base:Nat) (ok:Nat→Prop) (v:Value) (xs:List α):Prop:=∃ f,(tag f d).R e w base ok v xs.zipIdx
section
variable {α β:Type} {d:Kd α} {d':Kd β} {e e':Nat} {w w1 W:World} {base b:Nat} {ok ok' okv oku:Nat→Prop} {u v:Value} {xs:List α} {ys:List β}
theorem R_tight (hE:d.E = []) (h:d.R e w base ok v xs):d.R e w base (fun k=>some k=v.ownBlock) v xs:=by
 obtain ⟨h0,inner,ho,hr⟩:=h
 refine ⟨fun k hk=>hk.symm,inner,ho,hr.imp_ (fun p c hp=>d.M_mono (fun k hk => ?_) (d.M_bound hp))⟩
 obtain ⟨_,_,_,q,hq,_⟩:=hk
 rw [hE] at hq
 cases hq
end
section
variable {α β:Type} {d:Kd α} {d':Kd β} {e e' g:Nat} {w w1 W:World} {base b:Nat} {ok ok' okv oku:Nat→Prop} {u v:Value} {xs:List α} {ys:List β}
end
section
variable {P:Program} {ops:Array Oper} {rest:List Oper} {o:Oper} {a:Act} {Q:Exit→Act→World→Prop} {Kc:Act→World→Prop} {α:Type}
end
def gap {α:Type} (f:Nat→Nat) (d:Kd α) (i:Nat) (c:List Value):Kd (α×Nat) where
 sz:=d.sz
 E:=d.E
 K:=fun w x cs=>(x.2=i→cs=c∧cs.length=d.sz∧∀ u∈cs,u.oneCell'=true)∧(x.2≠i→d.K w x.1 cs)
 M:=fun w base ok x cs=>(x.2=i→cs=c∧cs.length=d.sz∧∀ u∈cs,u.oneCell'=true)∧(x.2≠i→d.M w base (fun k=>ok k∧f k=x.2) x.1 cs)
 K_len:=fun {w x cs} h=>by
  by_cases hx:x.2=i
  ·exact (h.1 hx).2.1
  ·exact d.K_len (h.2 hx)
 K_one:=fun {w x cs} h=>by
  by_cases hx:x.2=i
  ·exact (h.1 hx).2.2
  ·exact d.K_one (h.2 hx)
 K_below:=fun hb h=>⟨h.1,fun hx=>d.K_below hb (h.2 hx)⟩
 K_of_M:=fun h=>⟨h.1,fun hx=>d.K_of_M (h.2 hx)⟩
 M_mono:=fun hok h=>⟨h.1,fun hx=>d.M_mono (fun k hk=>⟨hok k hk.1,hk.2⟩) (h.2 hx)⟩
 M_bound:=fun h=>⟨h.1,fun hx=>d.M_mono (fun _ hk=>⟨⟨hk.1.1,hk.2⟩,hk.1.2⟩) (d.M_bound (h.2 hx))⟩
 M_move:=fun hm h=>⟨h.1,fun hx=>d.M_move (fun k hk=>hm k hk.1) (h.2 hx)⟩
 M_lower:=fun hb h=>⟨h.1,fun hx=>d.M_lower hb (h.2 hx)⟩
def H {α:Type} (d:Kd α) (e:Nat) (w:World) (base:Nat) (ok:Nat→Prop) (v:Value) (xs:List α) (i:Int) (oki:Nat→Prop) (c:List Value):Prop:=
 (∀ k,oki k→ok k)∧∃ f,(gap f d i.toNat c).R e w base (fun k=>ok k∧¬ oki k) v xs.zipIdx
section
variable {α β:Type} {d:Kd α} {e e' g n cap:Nat} {w w1 W:World} {base:Nat} {ok ok' oki okp:Nat→Prop} {u v:Value} {xs:List α} {i:Int} {c:List Value}
end
section
variable {P:Program} {ops:Array Oper} {rest:List Oper} {o:Oper} {a:Act} {Q:Exit→Act→World→Prop} {α:Type}
end
end Kd
end Go.Proofs.ZW.Wa
end
section
namespace Go.Proofs.ZW.Wa
open Go.RowKit
namespace Kd
section
variable {α:Type} {n:Nat} {d:Kd α} {hs:0<d.sz} {w:World} {base:Nat} {ok:Nat→Prop} {xs:List α} {cs:List Value}
end
section
variable {α:Type} {n:Nat} {enc:α→Value} {h1:∀ x,(enc x).oneCell'=true} {hs:0<(scalar enc h1).sz} {w:World} {base:Nat} {ok:Nat→Prop} {xs:List α} {cs:List Value}
theorem reps_encs (h:Reps (fun (x:α) (cs:List Value)=>cs = [enc x]) 1 xs cs):cs=encs enc xs:=by
 apply List.ext_getElem?
 intro j
 have hl:=h.1
 rw [Nat.mul_one] at hl
 rcases Nat.lt_or_ge j xs.length with hj|hj
 ·have h2:=h.2 j _ (List.getElem?_eq_getElem hj)
  have hj':j<cs.length:=by omega
  rw [Nat.mul_one,List.drop_eq_getElem_cons hj'] at h2
  have h5:=congrArg List.head? h2
  rw [List.take_succ_cons] at h5
  have h4:cs[j]=enc xs[j]:=Option.some.inj h5
  rw [List.getElem?_eq_getElem hj',h4]
  simp [encs,List.getElem?_eq_getElem hj]
 ·rw [List.getElem?_eq_none (by omega),List.getElem?_eq_none (by rw [zcE]; omega)]
end
end Kd
end Go.Proofs.ZW.Wa
end
section
namespace Go.Proofs.ZW.Wa
open Go.RowKit
namespace Kd
structure Heap {α:Type} (d:Kd α):Prop where
 K:∀ {w w1:World} {x:α} {cs:List Value},(∀ k,k<w.heap.size→w1.heap[k]? = w.heap[k]?)→d.K w x cs→d.K w1 x cs
theorem cell_heap {w w1:World} (hb:∀ k,k<w.heap.size→w1.heap[k]? = w.heap[k]?) {a:Addr} {v:Value} (h:w.cell? a=some v):w1.cell? a=some v:=by
 have:=hb a.block (World.block_lt_of_cell? w a h)
 simpa [World.cell?,this] using h
theorem Heap.C {α:Type} {d:Kd α} (hd:Heap d) {w w1:World} {A:Option Addr} {n:Nat} {xs:List α} (hb:∀ k,k<w.heap.size→w1.heap[k]? = w.heap[k]?) (h:d.C w A n xs):d.C w1 A n xs:=
 ⟨h.1,h.2.1,fun hn=>by
  obtain ⟨ad,e,hc⟩:=h.2.2 hn
  refine ⟨ad,e,fun j p hj => ?_⟩
  obtain ⟨c,hs,hr,hcell⟩:=hc j p hj
  exact ⟨c,hs,hd.K hb hr,fun i u hu=>cell_heap hb (hcell i u hu)⟩⟩
theorem heap_int (k:IntKind):Heap (Kd.int k):=⟨fun _ h=>h⟩
section
variable {α:Type} {d:Kd α} {e base g n c:Nat} {ok:Nat→Prop} {w w0 W:World} {A:Option Addr} {xs:List α}
end
end Kd
end Go.Proofs.ZW.Wa
end
section
namespace Go.Proofs.ZW.Wa
open Go.RowKit
def Kept (w W:World) (S:Nat→Prop):Prop:=w.heap.size≤W.heap.size∧∀ i,i<w.heap.size→¬ S i→W.heap[i]? = w.heap[i]?
section
variable {w W W2:World} {S S2 S':Nat→Prop}
theorem Kept.refl (w:World) (S:Nat→Prop):Kept w w S:=⟨Nat.le_refl _,fun _ _ _=>rfl⟩
theorem Kept.of_below (h:Below w.heap.size w W) (S:Nat→Prop):Kept w W S:=⟨h.size,fun i hi _=>h.block i hi⟩
theorem Kept.then_ (h:Kept w W S) (k:Kept W W2 S2) (hs:∀ k,S2 k→S k∨w.heap.size≤k):Kept w W2 S:=
 ⟨Nat.le_trans h.1 k.1,fun i hi hn=>(k.2 i (Nat.lt_of_lt_of_le hi h.1) (fun h2=>(hs i h2).elim hn (fun h3=>by omega))).trans (h.2 i hi hn)⟩
theorem Kept.below (h:Kept w W S) (hb:Below W.heap.size W W2):Kept w W2 S:=h.then_ (Kept.of_below hb (fun _=>False)) (fun _ hk=>hk.elim)
theorem Kept.alloc (h:Kept w W S) (o:Obj):Kept w (W.alloc o) S:=h.below (zaa (Below.refl _ _) o)
theorem Kept.drew (h:Kept w W S):Kept w W.drew S:=h
theorem Kept.drewN (h:Kept w W S) (m:Nat):Kept w (W.drewN m) S:=h
theorem Kept.setCell (h:Kept w W S) {p:Addr} (hp:S p.block∨w.heap.size≤p.block) (u:Value):Kept w (W.setCell p u) S:=
 h.then_ (S2:=fun k=>k=p.block) ⟨by simp [World.setCell],fun i _ hn=>Below.heap_setCell W p u i hn⟩ (fun k hk=>by rw [hk]; exact hp)
theorem Kept.keep {g:Nat} (h:KeepBut w W g none) (k:Kept W W2 S2) (hs:∀ k,S2 k→w.heap.size≤k):KeepBut w W2 g none:=
 ⟨Nat.le_trans h.1 k.1,fun i hi hg hr=>(k.2 i (Nat.lt_of_lt_of_le hi h.1) (fun h2=>by have:=hs i h2; omega)).trans (h.2 i hi hg hr)⟩
theorem blk_kept {g:Nat} {o:Obj} (hb:W.heap[g]? = some o) (hk:Kept W W2 S) (hne:¬ S g):W2.heap[g]? = some o:=(hk.2 g (zas hb) hne).trans hb
end
namespace Kd
section
variable {α:Type} {d:Kd α} {e base n c:Nat} {ok oki S S2:Nat→Prop} {w w0 W W1 W2:World} {v:Value} {A:Option Addr} {xs:List α} {i:Int} {cs:List Value}
end
end Kd
end Go.Proofs.ZW.Wa
end
